import PyProof.Rows.All
import Wide.All
import OpenK.AllK
import Wide.FinOn
import HandS.ForMost
import HandS.TupAny
import HandS.TupMul
import HandS.IsInst
import HandS.TupLe
import HandS.DictComp
import HandS.Conv
import HandS.Walk
import HandS.Evl
import KE.GoesMore
import PyProof.Draws
import PyProof.CollectIter
import PyProof.WalksMore
import PyProof.TupleOfSeq
import KE.KDictList
import PySem.Challenge.RW_fairtrees_k22_whole_forms
set_option Elab.async false
set_option linter.all false
set_option maxRecDepth 100000
set_option maxHeartbeats 4000000
namespace Fx
open PySem PySem.Spec PyProof.Rows L2
def topS (i : Nat) : Stmt := PySem.Challenge.pw_fairtrees_k22_whole_forms.main.body.getD i (.Pass ⟨0, 0, 0, 0⟩)

/-! ### heaps, data, the pool of draws -/
/-- a def of the text as its callers see it -/
structure Cal (P : Program) (w : World) (K : PySem.W.Frag) (mg : Str → Option Value) (base : Heap) (k : Nat) (x : Str) (ps : List Str) (sp : Sp) where
  f : Addr
  fd : FuncData
  G : FnOk P w K mg base CX0 k f fd ps sp
  g : mg x = some (.ref f)
  kp : PySem.W.keepIn K (.ref f) = true
  b : Binds K fd ps []
theorem same_upd {H : Hp} {p : Addr} {o : HO} (h : H p = none) : Same H (upd H p o) := fun b x e => by
  rw [upd_ne (ne_of_none e h)]
  exact e
/-- an object that H does not know may change -/
theorem smut {H H' : Hp} {p : Addr} {o : HO} (e : Same H H') (h : H p = none) : Same H (upd H' p o) := fun a u ha => by
  rw [upd_ne (ne_of_none ha h)]
  exact e a u ha
/-- all tuples stand -/
def Imm (H H' : Hp) : Prop := ∀ a xs, Rd H a (.tup xs) → Rd H' a (.tup xs)
theorem Imm.refl (H : Hp) : Imm H H := fun _ _ h => h
theorem Imm.trans {H H1 H2 : Hp} (a : Imm H H1) (b : Imm H1 H2) : Imm H H2 := fun x xs h => b x xs (a x xs h)
theorem simm {H H' : Hp} (e : Same H H') : Imm H H' := fun a xs h => by
  rcases h with h | ⟨o, h⟩
  · exact .inl (e _ _ h)
  · exact .inr ⟨o, e _ _ h⟩
theorem Imm.sq {K : PySem.W.Frag} {H H' : Hp} {a : Addr} {xs : List V} (e : Imm H H') (h : SqT K H a xs) : SqT K H' a xs := by
  rcases h with h | h
  · exact .inl (e _ _ h)
  · exact .inr h
theorem ssqt {K : PySem.W.Frag} {H H' : Hp} {a : Addr} {xs : List V} (e : Same H H') (h : SqT K H a xs) : SqT K H' a xs := (simm e).sq h
/-- a list that changes is no tuple -/
theorem Imm.list {H : Hp} {p : Addr} {xs : List V} {o : HO} (h : H p = some (.lst xs)) : Imm H (upd H p o) := fun a ys e => by
  rcases e with e | ⟨u, e⟩
  · exact .inl (by rw [upd_ne (ne_of h e (by intro q; cases q)).symm]; exact e)
  · exact .inr ⟨u, by rw [upd_ne (ne_of h e (by intro q; cases q)).symm]; exact e⟩
theorem Imm.new {H : Hp} {p : Addr} {o : HO} (h : H p = none) : Imm H (upd H p o) := simm (same_upd h)
/-- a list of addresses, each a tuple of such things -/
inductive Each {α : Type} (R : Addr → α → Prop) : List Addr → List α → Prop where
  | nil : Each R [] []
  | cons {a : Addr} {as : List Addr} {x : α} {xs : List α} (h : R a x) (t : Each R as xs) : Each R (a :: as) (x :: xs)
theorem Each.imp {α : Type} {R S : Addr → α → Prop} (f : ∀ a x, R a x → S a x) : ∀ {as : List Addr} {xs : List α}, Each R as xs → Each S as xs
  | _, _, .nil => .nil
  | _, _, .cons h t => .cons (f _ _ h) (t.imp f)
theorem Each.len {α : Type} {R : Addr → α → Prop} : ∀ {as : List Addr} {xs : List α}, Each R as xs → as.length = xs.length
  | _, _, .nil => rfl
  | _, _, .cons _ t => by rw [List.length_cons, List.length_cons, t.len]
theorem Each.get {α : Type} {R : Addr → α → Prop} : ∀ {as : List Addr} {xs : List α} {i : Nat} {a : Addr}, Each R as xs → as[i]? = some a → ∃ x, xs[i]? = some x ∧ R a x
  | _, _, _, _, .nil, h => by simp at h
  | _, _, 0, _, .cons (x := x) r _, h => by
    have e := Option.some.inj h
    subst e
    exact ⟨x, rfl, r⟩
  | _, _, i + 1, _, .cons _ t, h => by
    obtain ⟨x, h1, h2⟩ := t.get (i := i) (by simpa using h)
    exact ⟨x, by simpa using h1, h2⟩
theorem Each.getx {α : Type} {R : Addr → α → Prop} : ∀ {as : List Addr} {xs : List α} {i : Nat} {x : α}, Each R as xs → xs[i]? = some x → ∃ a, as[i]? = some a ∧ R a x
  | _, _, _, _, .nil, h => by simp at h
  | _, _, 0, _, .cons (a := a) r _, h => by
    have e := Option.some.inj h
    subst e
    exact ⟨a, rfl, r⟩
  | _, _, i + 1, _, .cons _ t, h => by
    obtain ⟨x, h1, h2⟩ := t.getx (i := i) (by simpa using h)
    exact ⟨x, by simpa using h1, h2⟩
theorem Each.snoc {α : Type} {R : Addr → α → Prop} {a : Addr} {x : α} (r : R a x) : ∀ {as : List Addr} {xs : List α}, Each R as xs → Each R (as ++ [a]) (xs ++ [x])
  | _, _, .nil => .cons r .nil
  | _, _, .cons h t => .cons h (t.snoc r)
theorem map_get {α : Type} {f : α → V} {xs : List α} {i : Nat} {v : V} (h : (xs.map f)[i]? = some v) : ∃ x, xs[i]? = some x ∧ v = f x := by
  rw [List.getElem?_map] at h
  cases e : xs[i]? with
  | none =>
    rw [e] at h
    cases h
  | some x =>
    rw [e] at h
    exact ⟨x, rfl, (Option.some.inj h).symm⟩
theorem get_map {α : Type} {f : α → V} {xs : List α} {i : Nat} {x : α} (h : xs[i]? = some x) : (xs.map f)[i]? = some (f x) := by
  rw [List.getElem?_map, h]
  rfl
theorem notdec {p : Prop} [Decidable p] (h : (!decide p) = true) : ¬ p := by simpa using h
theorem dec_of {p : Prop} [Decidable p] (h : ¬ ((!decide p) = true)) : p := by simpa using h
theorem ixN_nat {n j : Nat} (hj : j < n) : ixN n (j : Int) = some j := by
  unfold ixN
  rw [if_pos (by omega), if_pos (by omega)]
  simp
theorem ixN0 {n : Nat} (h : 0 < n) : ixN n 0 = some 0 := ixN_nat (j := 0) h
theorem six0 {n : Nat} (h : 0 < n) : seqIndex? 0 n = some 0 := by
  unfold seqIndex?
  simp
  omega
theorem szOk {n : Nat} (h : n ≤ 100000) : n ≤ sizeLine := Nat.le_trans h (by decide)
theorem szLt {n : Nat} (h : n < 100000) : n < sizeLine := Nat.lt_of_lt_of_le h (by decide)
theorem ty_sqt {K : PySem.W.Frag} {H : Hp} {a : Addr} {xs : List V} (h : SqT K H a xs) : TyX K H (.ref a) (.type "tuple") := by
  rcases h with (h | ⟨o, h⟩) | ⟨o, its, n, hk, hc, _⟩
  · exact .base (.tup h)
  · exact .fTuple h
  · exact .kTuple hk hc
/-- the pool's addresses: itself, its great numbers, its small ones -/
structure PA where
  p : Addr
  g : Addr
  s : Addr
def Off (a : PA) (b : Addr) : Prop := b ≠ a.p ∧ b ≠ a.g ∧ b ≠ a.s
structure Pool (H : Hp) (a : PA) (c : Nat) : Prop where
  ex : ∃ (gs ss : List Int) (st ct : Int), H a.p = some (.lst [.ref a.g, .ref a.s, .int st, .int ct]) ∧ H a.g = some (.lst (gs.map V.int)) ∧ H a.s = some (.lst (ss.map V.int)) ∧
    gs.length ≤ 63 ∧ ss.length ≤ 63 ∧ 0 ≤ st ∧ st < 2147483647 ∧ 0 ≤ ct ∧ ct ≤ c ∧ a.s ≠ a.g
/-- all but the pool stands -/
def Kp (a : PA) (H H' : Hp) : Prop := ∀ b o, H b = some o → Off a b → H' b = some o
theorem Kp.refl {a : PA} (H : Hp) : Kp a H H := fun _ _ h _ => h
theorem Kp.trans {a : PA} {H H1 H2 : Hp} (x : Kp a H H1) (y : Kp a H1 H2) : Kp a H H2 := fun c o h n => y c o (x c o h n) n
theorem skp {a : PA} {H H' : Hp} (s : Same H H') : Kp a H H' := fun b o h _ => s b o h
theorem Kp.mut {a : PA} {H H' : Hp} {q : Addr} {o : HO} (e : Kp a H H') (h : H q = none) : Kp a H (upd H' q o) := fun b u hb n => by
  rw [upd_ne (ne_of_none hb h)]
  exact e b u hb n
theorem Kp.free {a : PA} {H H' : Hp} {l : Addr} (k : Kp a H H') (h : H' l = none) (n : Off a l) : H l = none := by
  cases e : H l with
  | none => rfl
  | some o =>
    rw [k l o e n] at h
    cases h
theorem Pool.mono {H : Hp} {a : PA} {c c' : Nat} (P : Pool H a c) (h : c ≤ c') : Pool H a c' := by
  obtain ⟨gs, ss, st, ct, a1, a2, a3, a4, a5, a6, a7, a8, a9, a10⟩ := P.ex
  exact ⟨gs, ss, st, ct, a1, a2, a3, a4, a5, a6, a7, a8, by omega, a10⟩
theorem Pool.same {H H' : Hp} {a : PA} {c : Nat} (P : Pool H a c) (e : Same H H') : Pool H' a c := by
  obtain ⟨gs, ss, st, ct, a1, a2, a3, a4, a5, a6, a7, a8, a9, a10⟩ := P.ex
  exact ⟨gs, ss, st, ct, e _ _ a1, e _ _ a2, e _ _ a3, a4, a5, a6, a7, a8, a9, a10⟩
theorem Pool.off {H : Hp} {a : PA} {b : Addr} {c : Nat} (P : Pool H a c) (h : H b = none) : Off a b := by
  obtain ⟨gs, ss, st, ct, a1, a2, a3, a4, a5, a6, a7, a8, a9, a10⟩ := P.ex
  exact ⟨(ne_of_none a1 h).symm, (ne_of_none a2 h).symm, (ne_of_none a3 h).symm⟩
/-- what is no list is none of the pool's -/
theorem Pool.offo {H : Hp} {a : PA} {b : Addr} {c : Nat} {o : HO} (P : Pool H a c) (h : H b = some o) (n : ∀ xs, o ≠ .lst xs) : Off a b := by
  obtain ⟨gs, ss, st, ct, a1, a2, a3, a4, a5, a6, a7, a8, a9, a10⟩ := P.ex
  exact ⟨(ne_of a1 h (n _).symm).symm, (ne_of a2 h (n _).symm).symm, (ne_of a3 h (n _).symm).symm⟩
theorem Pool.imm {H H' : Hp} {a : PA} {c : Nat} (P : Pool H a c) (k : Kp a H H') : Imm H H' := fun b xs h => by
  rcases h with h | ⟨o, h⟩
  · exact .inl (k _ _ h (P.offo h fun _ q => by cases q))
  · exact .inr ⟨o, k _ _ h (P.offo h fun _ q => by cases q)⟩
/-- an object beside the pool is laid or changed -/
theorem Pool.upd {H : Hp} {a : PA} {b : Addr} {c : Nat} {o : HO} (P : Pool H a c) (n : Off a b) : Pool (upd H b o) a c := by
  obtain ⟨gs, ss, st, ct, a1, a2, a3, a4, a5, a6, a7, a8, a9, a10⟩ := P.ex
  exact ⟨gs, ss, st, ct, by rw [upd_ne n.1.symm]; exact a1, by rw [upd_ne n.2.1.symm]; exact a2, by rw [upd_ne n.2.2.symm]; exact a3, a4, a5, a6, a7, a8, a9, a10⟩
/-! ### rules within a comprehension's block: the written part by its name -/
section
variable {X : Cx}
theorem ixL (K : PySem.W.Frag) (h : X.K = K := by rfl) : IxR X (rIxL K) := by subst h; exact ix_list
theorem ixT (K : PySem.W.Frag) (h : X.K = K := by rfl) : IxR X (rIxT K) := by subst h; exact ix_tup
theorem inS (K : PySem.W.Frag) (h : X.K = K := by rfl) : OpR X (compareOp .In) (rIn K false) := by subst h; exact op_in_seq
theorem ninS (K : PySem.W.Frag) (h : X.K = K := by rfl) : OpR X (compareOp .NotIn) (rIn K true) := by subst h; exact op_notIn_seq
theorem lenS (K : PySem.W.Frag) (h : X.K = K := by rfl) : CallR X (.builtin "len") (fun xs H Q => ∃ p ys, xs = [.ref p] ∧ (SqL K H p ys ∨ SqT K H p ys) ∧ Q (.int ys.length) H) := by subst h; exact call_len_seq
theorem isiK (K : PySem.W.Frag) (h : X.K = K := by rfl) : CallR X (.builtin "isinstance") (rIsi K) := by subst h; exact call_isi
theorem tupOf (K : PySem.W.Frag) (h : X.K = K := by rfl) : CallR X (.type "tuple") (fun xs H Q => ∃ p ys, xs = [.ref p] ∧ ((SqL K H p ys ∧ ∀ l, H l = none → Q (.ref l) (upd H l (.tup ys))) ∨ (SqT K H p ys ∧ Q (.ref p) H))) := by subst h; exact call_tuple_of
theorem slL (K : PySem.W.Frag) (h : X.K = K := by rfl) : SlR X (rSlL K) := by subst h; exact sl_list
theorem slA (K : PySem.W.Frag) (h : X.K = K := by rfl) : SlR X (rSlA K) := by subst h; exact sl_tupA
theorem catA (K : PySem.W.Frag) (h : X.K = K := by rfl) : OpR X (binaryOp .Add) (rCatA K) := by subst h; exact op_catA
theorem sortS (K : PySem.W.Frag) (h : X.K = K := by rfl) : CallR X (.builtin "sorted") (rSortedS K) := by subst h; exact cr_sortedS
theorem sortI (K : PySem.W.Frag) (h : X.K = K := by rfl) : CallR X (.builtin "sorted") (rSorted K) := by subst h; exact cr_sorted
end
/-! ### comprehensions: what holds of the list so far -/
section
variable {K : PySem.W.Frag}
/-- over a range, its turns drawing from the pool (k draws a turn) -/
theorem lc_rangeP {lo : Int} {n j : Nat} {tt : TT} {te : TE} {vs : List Nat} {σ : L2.St} {H1 : Hp} {D : Addr} {Qd : Hp → Prop} {a : PA} {c0 : Nat} (k : Nat) (ok : Nat → List V → Prop)
    (P0 : Pool H1 a c0) (hD : H1 D = none) (hn : n ≤ 100000) (h0 : ok 0 []) (hw : ∀ x, wipe ((wipe σ vs).set j (some x)) vs = wipe σ vs)
    (turn : ∀ (i : Nat) (H : Hp) (acc : List V), i < n → Pool H a (c0 + i * k) → Kp a H1 H → ok i acc → acc.length ≤ i → ∀ (N1 : V → Hp → Prop) (N2 : Hp → Prop),
      (∀ y H', Pool H' a (c0 + i * k + k) → Kp a H H' → ok (i + 1) (acc ++ [y]) → N1 y H') → (∀ H', Pool H' a (c0 + i * k + k) → Kp a H H' → ok (i + 1) acc → N2 H') →
      tt ((wipe σ vs).set j (some (.int (lo + i)))) H fun b H3 => if b = true then te ((wipe σ vs).set j (some (.int (lo + i)))) H3 N1 else N2 H3)
    (done : ∀ (H : Hp) (acc : List V), Pool H a (c0 + n * k) → Kp a H1 H → H D = some (.lst acc) → acc.length ≤ n → ok n acc → Off a D → Qd H) :
    ∃ W : Nat → Nat → Hp → Prop, (∃ m, W 0 m (upd H1 D (.lst []))) ∧ ∀ i m H, W i m H →
      ((Itr lo n).stop i H ∧ Qd H) ∨ ((Itr lo n).go i H ∧ ∃ Nx : Hp → Prop, (∀ H', Nx H' → ∃ m', m' < m ∧ W (i + 1) m' H') ∧ ∀ x H', (Itr lo n).yld i H x H' → (gName j) x (wipe σ vs) H' fun σ2 H2 => wipe σ2 vs = wipe σ vs ∧ tt σ2 H2 fun b H3 =>
        if b = true then te σ2 H3 fun y H4 => ∃ acc, H4 D = some (.lst acc) ∧ acc.length < sizeLine ∧ Nx (upd H4 D (.lst (acc ++ [y]))) else Nx H3) := by
  have oD : Off a D := P0.off hD
  refine lc_range (lo := lo) (n := n) (fun i H => ∃ acc, Pool H a (c0 + i * k) ∧ Kp a H1 H ∧ H D = some (.lst acc) ∧ acc.length ≤ i ∧ ok i acc) ⟨[], ?_, skp (same_upd hD), upd_same, Nat.le_refl _, h0⟩ (fun i H hi p => ?_) (fun H p => ?_)
  · rw [Nat.zero_mul]
    exact P0.upd oD
  · obtain ⟨acc, p1, p2, p3, p4, p5⟩ := p
    refine ⟨hw _, turn i H acc hi p1 p2 p5 p4 _ _ (fun y H' q1 q2 q3 => ⟨acc, q2 _ _ p3 oD, szLt (by omega), acc ++ [y], ?_, ?_, upd_same, ?_, q3⟩) (fun H' q1 q2 q3 => ⟨acc, ?_, p2.trans q2, q2 _ _ p3 oD, by omega, q3⟩)⟩
    · rw [Nat.succ_mul, ← Nat.add_assoc]
      exact q1.upd oD
    · exact Kp.mut (p2.trans q2) hD
    · rw [List.length_append]
      show acc.length + 1 ≤ i + 1
      omega
    · rw [Nat.succ_mul, ← Nat.add_assoc]
      exact q1
  · obtain ⟨acc, p1, p2, p3, p4, p5⟩ := p
    exact done H acc p1 p2 p3 p4 p5 oD
/-- over a walked thing, its turns changing nothing that stood -/
theorem lc_rangeS {lo : Int} {n j : Nat} {tt : TT} {te : TE} {vs : List Nat} {σ : L2.St} {H1 : Hp} {D : Addr} {Qd : Hp → Prop} (ok : Nat → List V → Prop)
    (hD : H1 D = none) (hn : n ≤ 100000) (h0 : ok 0 []) (hw : ∀ x, wipe ((wipe σ vs).set j (some x)) vs = wipe σ vs)
    (turn : ∀ (i : Nat) (H : Hp) (acc : List V), i < n → Same H1 H → ok i acc → acc.length ≤ i → ∀ (N1 : V → Hp → Prop) (N2 : Hp → Prop),
      (∀ y H', Same H H' → ok (i + 1) (acc ++ [y]) → N1 y H') → (∀ H', Same H H' → ok (i + 1) acc → N2 H') →
      tt ((wipe σ vs).set j (some (.int (lo + i)))) H fun b H3 => if b = true then te ((wipe σ vs).set j (some (.int (lo + i)))) H3 N1 else N2 H3)
    (done : ∀ (H : Hp) (acc : List V), Same H1 H → H D = some (.lst acc) → acc.length ≤ n → ok n acc → Qd H) :
    ∃ W : Nat → Nat → Hp → Prop, (∃ m, W 0 m (upd H1 D (.lst []))) ∧ ∀ i m H, W i m H →
      ((Itr lo n).stop i H ∧ Qd H) ∨ ((Itr lo n).go i H ∧ ∃ Nx : Hp → Prop, (∀ H', Nx H' → ∃ m', m' < m ∧ W (i + 1) m' H') ∧ ∀ x H', (Itr lo n).yld i H x H' → (gName j) x (wipe σ vs) H' fun σ2 H2 => wipe σ2 vs = wipe σ vs ∧ tt σ2 H2 fun b H3 =>
        if b = true then te σ2 H3 fun y H4 => ∃ acc, H4 D = some (.lst acc) ∧ acc.length < sizeLine ∧ Nx (upd H4 D (.lst (acc ++ [y]))) else Nx H3) := by
  refine lc_range (lo := lo) (n := n) (fun i H => ∃ acc, Same H1 H ∧ H D = some (.lst acc) ∧ acc.length ≤ i ∧ ok i acc) ⟨[], same_upd hD, upd_same, Nat.le_refl _, h0⟩ (fun i H hi p => ?_) (fun H p => ?_)
  · obtain ⟨acc, p2, p3, p4, p5⟩ := p
    refine ⟨hw _, turn i H acc hi p2 p5 p4 _ _ (fun y H' q2 q3 => ⟨acc, q2 _ _ p3, szLt (by omega), acc ++ [y], smut (p2.trans q2) hD, upd_same, ?_, q3⟩) (fun H' q2 q3 => ⟨acc, p2.trans q2, q2 _ _ p3, by omega, q3⟩)⟩
    rw [List.length_append]
    show acc.length + 1 ≤ i + 1
    omega
  · obtain ⟨acc, p2, p3, p4, p5⟩ := p
    exact done H acc p2 p3 p4 p5
theorem lc_listS {a : Addr} {xs : List V} {j : Nat} {tt : TT} {te : TE} {vs : List Nat} {σ : L2.St} {H1 : Hp} {D : Addr} {Qd : Hp → Prop} (ok : Nat → List V → Prop)
    (hx : SqL K H1 a xs) (hD : H1 D = none) (hn : xs.length ≤ 100000) (h0 : ok 0 []) (hw : ∀ x, wipe ((wipe σ vs).set j (some x)) vs = wipe σ vs)
    (turn : ∀ (i : Nat) (x : V) (H : Hp) (acc : List V), xs[i]? = some x → Same H1 H → ok i acc → acc.length ≤ i → ∀ (N1 : V → Hp → Prop) (N2 : Hp → Prop),
      (∀ y H', Same H H' → ok (i + 1) (acc ++ [y]) → N1 y H') → (∀ H', Same H H' → ok (i + 1) acc → N2 H') →
      tt ((wipe σ vs).set j (some x)) H fun b H3 => if b = true then te ((wipe σ vs).set j (some x)) H3 N1 else N2 H3)
    (done : ∀ (H : Hp) (acc : List V), Same H1 H → H D = some (.lst acc) → acc.length ≤ xs.length → ok xs.length acc → Qd H) :
    ∃ W : Nat → Nat → Hp → Prop, (∃ m, W 0 m (upd H1 D (.lst []))) ∧ ∀ i m H, W i m H →
      ((Itl K a).stop i H ∧ Qd H) ∨ ((Itl K a).go i H ∧ ∃ Nx : Hp → Prop, (∀ H', Nx H' → ∃ m', m' < m ∧ W (i + 1) m' H') ∧ ∀ x H', (Itl K a).yld i H x H' → (gName j) x (wipe σ vs) H' fun σ2 H2 => wipe σ2 vs = wipe σ vs ∧ tt σ2 H2 fun b H3 =>
        if b = true then te σ2 H3 fun y H4 => ∃ acc, H4 D = some (.lst acc) ∧ acc.length < sizeLine ∧ Nx (upd H4 D (.lst (acc ++ [y]))) else Nx H3) := by
  refine lc_list (xs := xs) (fun i H => ∃ acc, Same H1 H ∧ H D = some (.lst acc) ∧ acc.length ≤ i ∧ ok i acc) ⟨[], same_upd hD, upd_same, Nat.le_refl _, h0⟩ (fun i H _ p => ?_) (fun i x H hi p => ?_) (fun H p => ?_)
  · obtain ⟨acc, p2, _⟩ := p
    exact p2.seq hx
  · obtain ⟨acc, p2, p3, p4, p5⟩ := p
    have hil : i < xs.length := (List.getElem?_eq_some_iff.mp hi).1
    refine ⟨hw _, turn i x H acc hi p2 p5 p4 _ _ (fun y H' q2 q3 => ⟨acc, q2 _ _ p3, szLt (by omega), acc ++ [y], smut (p2.trans q2) hD, upd_same, ?_, q3⟩) (fun H' q2 q3 => ⟨acc, p2.trans q2, q2 _ _ p3, by omega, q3⟩)⟩
    rw [List.length_append]
    show acc.length + 1 ≤ i + 1
    omega
  · obtain ⟨acc, p2, p3, p4, p5⟩ := p
    exact done H acc p2 p3 p4 p5
theorem lc_tupS {a : Addr} {xs : List V} {j : Nat} {tt : TT} {te : TE} {vs : List Nat} {σ : L2.St} {H1 : Hp} {D : Addr} {Qd : Hp → Prop} (ok : Nat → List V → Prop)
    (hx : SqT K H1 a xs) (hD : H1 D = none) (hn : xs.length ≤ 100000) (h0 : ok 0 []) (hw : ∀ x, wipe ((wipe σ vs).set j (some x)) vs = wipe σ vs)
    (turn : ∀ (i : Nat) (x : V) (H : Hp) (acc : List V), xs[i]? = some x → Same H1 H → ok i acc → acc.length ≤ i → ∀ (N1 : V → Hp → Prop) (N2 : Hp → Prop),
      (∀ y H', Same H H' → ok (i + 1) (acc ++ [y]) → N1 y H') → (∀ H', Same H H' → ok (i + 1) acc → N2 H') →
      tt ((wipe σ vs).set j (some x)) H fun b H3 => if b = true then te ((wipe σ vs).set j (some x)) H3 N1 else N2 H3)
    (done : ∀ (H : Hp) (acc : List V), Same H1 H → H D = some (.lst acc) → acc.length ≤ xs.length → ok xs.length acc → Qd H) :
    ∃ W : Nat → Nat → Hp → Prop, (∃ m, W 0 m (upd H1 D (.lst []))) ∧ ∀ i m H, W i m H →
      ((Itt K a).stop i H ∧ Qd H) ∨ ((Itt K a).go i H ∧ ∃ Nx : Hp → Prop, (∀ H', Nx H' → ∃ m', m' < m ∧ W (i + 1) m' H') ∧ ∀ x H', (Itt K a).yld i H x H' → (gName j) x (wipe σ vs) H' fun σ2 H2 => wipe σ2 vs = wipe σ vs ∧ tt σ2 H2 fun b H3 =>
        if b = true then te σ2 H3 fun y H4 => ∃ acc, H4 D = some (.lst acc) ∧ acc.length < sizeLine ∧ Nx (upd H4 D (.lst (acc ++ [y]))) else Nx H3) := by
  refine lc_tup (xs := xs) (fun i H => ∃ acc, Same H1 H ∧ H D = some (.lst acc) ∧ acc.length ≤ i ∧ ok i acc) ⟨[], same_upd hD, upd_same, Nat.le_refl _, h0⟩ (fun i H _ p => ?_) (fun i x H hi p => ?_) (fun H p => ?_)
  · obtain ⟨acc, p2, _⟩ := p
    exact ssqt p2 hx
  · obtain ⟨acc, p2, p3, p4, p5⟩ := p
    have hil : i < xs.length := (List.getElem?_eq_some_iff.mp hi).1
    refine ⟨hw _, turn i x H acc hi p2 p5 p4 _ _ (fun y H' q2 q3 => ⟨acc, q2 _ _ p3, szLt (by omega), acc ++ [y], smut (p2.trans q2) hD, upd_same, ?_, q3⟩) (fun H' q2 q3 => ⟨acc, p2.trans q2, q2 _ _ p3, by omega, q3⟩)⟩
    rw [List.length_append]
    show acc.length + 1 ≤ i + 1
    omega
  · obtain ⟨acc, p2, p3, p4, p5⟩ := p
    exact done H acc p2 p3 p4 p5
end

/-- what the top leaves of the names that the text reads -/
structure Bi (mg : Str → Option Value) : Prop where
  tuple : mg "tuple" = none
  len : mg "len" = none
  any : mg "any" = none
  all : mg "all" = none
  isinstance : mg "isinstance" = none
  bool : mg "bool" = none
  range : mg "range" = none

/-! ### _law_pool, _law_draw -/
abbrev s_law_pool : Stmt := topS 5
theorem sc_law_pool : FnScope ["_law_script", "_law_great", "_law_cell"] ["_law_script"] (defScope s_law_pool) := ⟨rfl, rfl, rfl, by decide +kernel, rfl, by decide +kernel, by decide +kernel⟩
abbrev s_law_draw : Stmt := topS 6
theorem sc_law_draw : FnScope ["_law_pool_here", "_law_many", "_law_cell"] ["_law_pool_here", "_law_many"] (defScope s_law_draw) := ⟨rfl, rfl, rfl, by decide +kernel, rfl, by decide +kernel, by decide +kernel⟩
section
variable {P : Program} {w : World} {K : PySem.W.Frag} {mg : Str → Option Value} {base : Heap}
def spPool (K : PySem.W.Frag) : Sp := fun vs H Q _ => ∃ (l : Addr) (ns : List Int), vs = [.ref l] ∧ SqL K H l (ns.map V.int) ∧ ns.length ≤ 63 ∧ ∀ H' a, Same H H' → Pool H' a 0 → Q (.ref a.p) H'
theorem ok_pool {f : Addr} {fd : FuncData} (F : Fun K "_law_pool" "_law_pool" s_law_pool f fd) : FnOk P w K mg base CX0 1 f fd ["_law_script"] (spPool K) := by
  refine F.ok sc_law_pool (fun vs H Q E h => ?_) (fun cdv A outer s H vs Q E hr h => ?_)
  · obtain ⟨l, ns, rfl, _⟩ := h
    rfl
  · obtain ⟨l, ns, rfl, hS, hlen, q⟩ := h
    refine ⟨_, (pss_cons (ps_setLc (i := 1) (own := [("_law_cell", 2)]) (g := gName 2) (by rfl) sc_law_pool.nd rfl rfl (sw_true rfl rfl rfl (by decide +kernel)) (pi_list (pv 0)) (blkOk_by (own := [("_law_cell", 2)]) (N := ["_law_script", "_law_great", "_law_cell"]) (sc := defScope s_law_pool) (by decide +kernel)) (fun _ _ _ _ _ => (pg_name (i := 2) sc_law_pool.nd rfl (.inl rfl))) (fun _ _ _ _ _ => (pts_one (pt_cmpR op_ge (pv 2) (pe_op op_pow pe_int pe_int) (nomark _)))) (fun _ _ _ _ _ => (pv 2)))
      (pss_one (ps_ret (pe_lst (pa_cons (pv 1) (pa_cons (pe_lc (own := [("_law_cell", 2)]) (g := gName 2) rfl sc_law_pool.nd (pi_list (pv 0)) (blkOk_by (own := [("_law_cell", 2)]) (N := ["_law_script", "_law_great", "_law_cell"]) (sc := defScope s_law_pool) (by decide +kernel)) (fun _ _ _ _ _ => (pg_name (i := 2) sc_law_pool.nd rfl (.inl rfl))) (fun _ _ _ _ _ => (pts_one (pt_cmpR op_lt (pv 2) (pe_op op_pow pe_int pe_int) (nomark _)))) (fun _ _ _ _ _ => (pv 2))) (pa_cons pe_int (pa_cons pe_int pa_nil)))))))), ?_⟩
    refine ⟨_, rfl, l, rfl, ⟨_, hS⟩, fun D hD => lc_listS (K := K) (a := l) (xs := ns.map V.int) (fun i acc => ∃ gs : List Int, acc = gs.map V.int) hS hD (by rw [List.length_map]; omega) ⟨[], rfl⟩ (fun _ => rfl) ?_ ?_⟩
    · intro i x H1 acc hx s1 ⟨gs, hg⟩ _ N1 N2 k1 k2
      obtain ⟨z, hz, rfl⟩ := map_get hx
      refine ⟨_, rfl, _, _, rfl, rfl, ⟨by decide, by decide, by decide⟩, _, _, rfl, rfl, _, rfl, ite2 (fun e => ?_) (fun e => ?_)⟩
      · exact ⟨_, rfl, k1 _ _ (Same.refl _) ⟨gs ++ [z], by rw [hg, List.map_append]; rfl⟩⟩
      · exact k2 _ (Same.refl _) ⟨gs, hg⟩
    · intro H1 acc s1 hD1 la ⟨gs, hg⟩
      subst hg
      have hS1 : SqL K H1 l (ns.map V.int) := s1.seq hS
      refine ⟨_, rfl, _, rfl, l, rfl, ⟨_, hS1⟩, fun D2 hD2 => lc_listS (K := K) (a := l) (xs := ns.map V.int) (fun i acc => ∃ gs : List Int, acc = gs.map V.int) hS1 hD2 (by rw [List.length_map]; omega) ⟨[], rfl⟩ (fun _ => rfl) ?_ ?_⟩
      · intro i x H2 acc hx s2 ⟨gs, hg⟩ _ N1 N2 k1 k2
        obtain ⟨z, hz, rfl⟩ := map_get hx
        refine ⟨_, rfl, _, _, rfl, rfl, ⟨by decide, by decide, by decide⟩, _, _, rfl, rfl, _, rfl, ite2 (fun e => ?_) (fun e => ?_)⟩
        · exact ⟨_, rfl, k1 _ _ (Same.refl _) ⟨gs ++ [z], by rw [hg, List.map_append]; rfl⟩⟩
        · exact k2 _ (Same.refl _) ⟨gs, hg⟩
      · intro H2 acc s2 hD2' la2 ⟨ss, hs⟩
        subst hs
        refine ⟨by show 4 ≤ sizeLine; decide, fun p hp => q _ ⟨p, D, D2⟩ ((s1.trans s2).trans (same_upd hp)) ⟨gs, ss, 5, 0, upd_same, ?_, ?_, ?_, ?_, by decide, by decide, by decide, by decide, ?_⟩⟩
        · show upd H2 p _ D = _
          rw [upd_ne (ne_of_none (s2 _ _ hD1) hp)]
          exact s2 _ _ hD1
        · show upd H2 p _ D2 = _
          rw [upd_ne (ne_of_none hD2' hp)]
          exact hD2'
        · rw [List.length_map, List.length_map] at la
          omega
        · rw [List.length_map, List.length_map] at la2
          omega
        · exact (ne_of_none hD1 hD2).symm
def spDraw : Sp := fun vs H Q _ => ∃ (a : PA) (c : Nat) (m : Int), vs = [.ref a.p, .int m] ∧ Pool H a c ∧ c < 1000000 ∧ 0 < m ∧ m < 1073741824 ∧
  ∀ H' r, 0 ≤ r → r < m → Pool H' a (c + 1) → Kp a H H' → Q (.int r) H'
theorem ok_draw {f : Addr} {fd : FuncData} (F : Fun K "_law_draw" "_law_draw" s_law_draw f fd) (T : Bi mg) : FnOk P w K mg base CX0 1 f fd ["_law_pool_here", "_law_many"] spDraw := by
  refine F.ok sc_law_draw (fun vs H Q E h => ?_) (fun cdv A outer s H vs Q E hr h => ?_)
  · obtain ⟨a, c, m, rfl, _⟩ := h
    rfl
  · obtain ⟨⟨p, g, s⟩, c, m, rfl, PP, hc, hm0, hm1, q⟩ := h
    obtain ⟨gs, ss, st, ct, a1, a2, a3, a4, a5, a6, a7, a8, a9, a10⟩ := PP.ex
    have npg : p ≠ g := ne_of a1 a2 (by intro q; have := HO.lst.inj q; cases gs <;> cases this)
    have nps : p ≠ s := ne_of a1 a3 (by intro q; have := HO.lst.inj q; cases ss <;> cases this)
    refine ⟨_, (pss_cons (ps_if (pt_cmpR op_gt (pe_callB call_len_seq (by rfl) T.len PySem.boot_len (pa_cons (pe_ix ix_list (pv 0) pe_int (fun _ _ => rfl)) pa_nil)) pe_int (nomark _))
        (pss_cons (ps_set (i := 2) sc_law_draw.nd rfl (.inl rfl) (pe_ix ix_list (pe_ix ix_list (pv 0) pe_int (fun _ _ => rfl)) pe_int (fun _ _ => rfl)))
        (pss_cons (ps_asg (pe_op op_fdiv (pv 2) (pv 1)) (pg_sub (pe_ix ix_list (pv 0) pe_int (fun _ _ => rfl)) pe_int set_list))
        (pss_cons (ps_if (pt_cmpR op_eq (pe_op op_fdiv (pv 2) (pv 1)) pe_int (nomark _))
          (pss_one (ps_expr (pe_bm PySem.F.plainAttrs_list PySem.F.slot_list_pop PySem.F.type_list_pop mt_popAt (pe_ix ix_list (pv 0) pe_int (fun _ _ => rfl)) (pa_cons pe_int pa_nil))))
          pss_nil)
        (pss_one (ps_ret (pe_op op_mod (pv 2) (pv 1)))))))
        pss_nil)
      (pss_cons (ps_asg (pe_op op_add (pe_ix ix_list (pv 0) pe_int (fun _ _ => rfl)) pe_int) (pg_sub (pv 0) pe_int set_list))
      (pss_cons (ps_set (i := 2) sc_law_draw.nd rfl (.inl rfl) pe_int)
      (pss_cons (ps_if (pt_cmpR op_gt (pe_callB call_len_seq (by rfl) T.len PySem.boot_len (pa_cons (pe_ix ix_list (pv 0) pe_int (fun _ _ => rfl)) pa_nil)) pe_int (nomark _))
        (pss_one (ps_set (i := 2) sc_law_draw.nd rfl (.inl rfl) (pe_ix ix_list (pe_ix ix_list (pv 0) pe_int (fun _ _ => rfl)) (pe_op op_mod (pe_ix ix_list (pv 0) pe_int (fun _ _ => rfl)) (pe_callB call_len_seq (by rfl) T.len PySem.boot_len (pa_cons (pe_ix ix_list (pv 0) pe_int (fun _ _ => rfl)) pa_nil))) (fun _ _ => rfl))))
        pss_nil)
      (pss_cons (ps_set (i := 2) sc_law_draw.nd rfl (.inl rfl) (pe_op op_mul (pe_op op_mod (pv 2) pe_int) (pe_op op_add (pe_op op_mul (pe_ix ix_list (pv 0) pe_int (fun _ _ => rfl)) (pe_ix ix_list (pv 0) pe_int (fun _ _ => rfl))) pe_int)))
      (pss_cons (ps_asg (pe_op op_mod (pe_op op_add (pe_op op_add (pe_op op_mul (pe_ix ix_list (pv 0) pe_int (fun _ _ => rfl)) pe_int) (pv 2)) (pe_op op_mul pe_int (pe_ix ix_list (pv 0) pe_int (fun _ _ => rfl)))) pe_int) (pg_sub (pv 0) pe_int set_list))
      (pss_one (ps_ret (pe_op op_mod (pe_op op_fdiv (pe_op op_mod (pe_op op_pow (pe_ix ix_list (pv 0) pe_int (fun _ _ => rfl)) pe_int) pe_int) pe_int) (pv 1)))))))))), ?_⟩
    -- if len(pool[0]) > 0
    refine ⟨_, rfl, p, _, _, _, rfl, rfl, SqL.of a1, at_of (j := 0) rfl rfl, g, _, rfl, .inl (SqL.of a2), _, _, rfl, rfl, _, rfl, ite2 (fun e => ?_) (fun e => ?_)⟩
    · obtain ⟨z, r, rfl⟩ : ∃ z r, gs = z :: r := by
        cases gs with
        | nil => exact absurd e (by decide)
        | cons z r => exact ⟨z, r, rfl⟩
      refine ⟨_, rfl, p, _, _, _, rfl, rfl, SqL.of a1, at_of (j := 0) rfl rfl, g, _, _, .int z, rfl, rfl, SqL.of a2, at_of (j := 0) rfl rfl, ?_⟩
      have a1' : ∀ o, upd H g o p = some (.lst [.ref g, .ref s, .int st, .int ct]) := fun o => by
        rw [upd_ne npg]
        exact a1
      have a3' : ∀ o, upd H g o s = some (.lst (ss.map V.int)) := fun o => by
        rw [upd_ne a10]
        exact a3
      refine ⟨_, rfl, _, rfl, _, _, rfl, rfl, ⟨hm0, hm1⟩, _, rfl, p, _, _, _, rfl, rfl, SqL.of a1, at_of (j := 0) rfl rfl, g, _, 0, 0, rfl, rfl, a2, ixN0 (by simp), ?_⟩
      refine ⟨_, rfl, _, rfl, _, _, rfl, rfl, ⟨hm0, hm1⟩, rfl, _, rfl, ite2 (fun e0 => ?_) (fun e0 => ?_)⟩
      · refine ⟨_, rfl, p, _, _, _, rfl, rfl, SqL.of (a1' _), at_of (j := 0) rfl rfl, .inl ⟨rfl, _, SqL.of upd_same⟩, g, _, 0, 0, _, rfl, rfl, upd_same, by decide, by decide, six0 (by simp), rfl, ?_⟩
        refine ⟨_, rfl, _, rfl, _, _, rfl, rfl, hm0, ?_⟩
        refine q _ _ (Int.emod_nonneg _ (by omega)) (Int.emod_lt_of_pos _ hm0) ⟨r, ss, st, ct, ?_, ?_, ?_, ?_, a5, a6, a7, a8, by omega, a10⟩ (fun b o hb n => ?_)
        · rw [upd_upd]
          exact a1' _
        · show upd _ g _ g = _
          rw [upd_same]
          rfl
        · rw [upd_upd]
          exact a3' _
        · simp at a4
          omega
        · rw [upd_ne n.2.1, upd_ne n.2.1]
          exact hb
      · refine ⟨_, rfl, _, rfl, _, _, rfl, rfl, hm0, ?_⟩
        refine q _ _ (Int.emod_nonneg _ (by omega)) (Int.emod_lt_of_pos _ hm0) ⟨(z / m) :: r, ss, st, ct, a1' _, ?_, a3' _, ?_, a5, a6, a7, a8, by omega, a10⟩ (fun b o hb n => ?_)
        · show upd _ g _ g = _
          rw [upd_same]
          rfl
        · simpa using a4
        · rw [upd_ne n.2.1]
          exact hb
    · -- pool[3] = pool[3] + 1
      refine ⟨_, rfl, p, _, _, _, rfl, rfl, SqL.of a1, at_of (j := 3) rfl rfl, _, _, rfl, rfl, _, rfl, p, _, 3, 3, rfl, rfl, a1, rfl, ?_⟩
      have w1 : upd H p (.lst [.ref g, .ref s, .int st, .int (ct + 1)]) p = some (.lst [.ref g, .ref s, .int st, .int (ct + 1)]) := upd_same
      have w2 : ∀ o, upd H p o g = some (.lst (gs.map V.int)) := fun o => by
        rw [upd_ne npg.symm]
        exact a2
      have w3 : ∀ o, upd H p o s = some (.lst (ss.map V.int)) := fun o => by
        rw [upd_ne nps.symm]
        exact a3
      -- cell = 0; if len(pool[1]) > 0
      refine ⟨_, rfl, p, _, _, _, rfl, rfl, SqL.of w1, at_of (j := 1) rfl rfl, s, _, rfl, .inl (SqL.of (w3 _)), _, _, rfl, rfl, _, rfl, ite2 (fun e => ?_) (fun e => ?_)⟩
      · have l0 : 0 < ss.length := by
          have := of_decide_eq_true e
          simpa using this
        have l1 : 0 ≤ (ct + 1) % (ss.length : Int) := Int.emod_nonneg _ (by omega)
        have l2 : (ct + 1) % (ss.length : Int) < ss.length := Int.emod_lt_of_pos _ (by omega)
        obtain ⟨j, ej⟩ : ∃ j : Nat, (ct + 1) % (ss.length : Int) = (j : Int) := ⟨_, (Int.toNat_of_nonneg l1).symm⟩
        have hj : j < ss.length := by omega
        have gj : (ss.map V.int)[j]? = some (.int ss[j]) := get_map (List.getElem?_eq_getElem hj)
        refine ⟨_, rfl, p, _, _, _, rfl, rfl, SqL.of w1, at_of (j := 1) rfl rfl, _, rfl, p, _, _, _, rfl, rfl, SqL.of w1, at_of (j := 3) rfl rfl, _, rfl, p, _, _, _, rfl, rfl, SqL.of w1, at_of (j := 1) rfl rfl, s, _, rfl, .inl (SqL.of (w3 _)), _, _, rfl, rfl, (by rw [List.length_map]; omega),
          s, _, _, _, rfl, rfl, SqL.of (w3 _), at_of (by rw [List.length_map]; exact ej) gj, ?_⟩
        generalize ss[j] = y
        refine ⟨_, rfl, _, _, rfl, rfl, (by show (0 : Int) < _; decide), _, rfl, p, _, _, _, rfl, rfl, SqL.of w1, at_of (j := 3) rfl rfl, _, rfl, p, _, _, _, rfl, rfl, SqL.of w1, at_of (j := 3) rfl rfl, _, _, rfl, rfl, .inl ⟨by omega, by omega⟩, _, _, rfl, rfl, _, _, rfl, rfl, .inl ⟨by omega, by omega⟩, ?_⟩
        refine ⟨_, rfl, p, _, _, _, rfl, rfl, SqL.of w1, at_of (j := 2) rfl rfl, _, _, rfl, rfl, .inl ⟨by omega, by omega⟩, _, rfl, _, _, rfl, rfl, _, rfl, p, _, _, _, rfl, rfl, SqL.of w1, at_of (j := 3) rfl rfl, _, _, rfl, rfl, .inl ⟨by omega, by omega⟩, _, _, rfl, rfl, _, _, rfl, rfl, (by show (0 : Int) < _; decide), _, rfl, p, _, 2, 2, rfl, rfl, w1, rfl, ?_⟩
        dsimp only [List.set]
        generalize hz : ((st * 48271 + y % 2147483629 * ((ct + 1) * (ct + 1) + 1) + 97 * (ct + 1)) % 2147483647 : Int) = z
        have hz0 : 0 ≤ z := by omega
        have hz1 : z < 2147483647 := by omega
        have w5 : upd (upd H p (.lst [.ref g, .ref s, .int st, .int (ct + 1)])) p (.lst [.ref g, .ref s, .int z, .int (ct + 1)]) p = some (.lst [.ref g, .ref s, .int z, .int (ct + 1)]) := upd_same
        refine ⟨_, rfl, p, _, _, _, rfl, rfl, SqL.of w5, at_of (j := 2) rfl rfl, _, _, rfl, rfl, ⟨by decide, by decide, by omega⟩, _, _, rfl, rfl, (by show (0 : Int) < _; decide), _, _, rfl, rfl, ⟨by decide, by decide⟩, _, rfl, _, _, rfl, rfl, hm0, ?_⟩
        refine q _ _ (Int.emod_nonneg _ (by omega)) (Int.emod_lt_of_pos _ hm0) ⟨gs, ss, z, ct + 1, w5, ?_, ?_, a4, a5, hz0, hz1, by omega, by omega, a10⟩ (fun b o hb n => ?_)
        · rw [upd_upd]
          exact w2 _
        · rw [upd_upd]
          exact w3 _
        · rw [upd_upd, upd_ne n.1]
          exact hb
      · refine ⟨_, rfl, _, _, rfl, rfl, (by show (0 : Int) < _; decide), _, rfl, p, _, _, _, rfl, rfl, SqL.of w1, at_of (j := 3) rfl rfl, _, rfl, p, _, _, _, rfl, rfl, SqL.of w1, at_of (j := 3) rfl rfl, _, _, rfl, rfl, .inl ⟨by omega, by omega⟩, _, _, rfl, rfl, _, _, rfl, rfl, .inl ⟨by omega, by omega⟩, ?_⟩
        refine ⟨_, rfl, p, _, _, _, rfl, rfl, SqL.of w1, at_of (j := 2) rfl rfl, _, _, rfl, rfl, .inl ⟨by omega, by omega⟩, _, rfl, _, _, rfl, rfl, _, rfl, p, _, _, _, rfl, rfl, SqL.of w1, at_of (j := 3) rfl rfl, _, _, rfl, rfl, .inl ⟨by omega, by omega⟩, _, _, rfl, rfl, _, _, rfl, rfl, (by show (0 : Int) < _; decide), _, rfl, p, _, 2, 2, rfl, rfl, w1, rfl, ?_⟩
        dsimp only [List.set]
        generalize hz : ((st * 48271 + 0 % 2147483629 * ((ct + 1) * (ct + 1) + 1) + 97 * (ct + 1)) % 2147483647 : Int) = z
        have hz0 : 0 ≤ z := by omega
        have hz1 : z < 2147483647 := by omega
        have w5 : upd (upd H p (.lst [.ref g, .ref s, .int st, .int (ct + 1)])) p (.lst [.ref g, .ref s, .int z, .int (ct + 1)]) p = some (.lst [.ref g, .ref s, .int z, .int (ct + 1)]) := upd_same
        refine ⟨_, rfl, p, _, _, _, rfl, rfl, SqL.of w5, at_of (j := 2) rfl rfl, _, _, rfl, rfl, ⟨by decide, by decide, by omega⟩, _, _, rfl, rfl, (by show (0 : Int) < _; decide), _, _, rfl, rfl, ⟨by decide, by decide⟩, _, rfl, _, _, rfl, rfl, hm0, ?_⟩
        refine q _ _ (Int.emod_nonneg _ (by omega)) (Int.emod_lt_of_pos _ hm0) ⟨gs, ss, z, ct + 1, w5, ?_, ?_, a4, a5, hz0, hz1, by omega, by omega, a10⟩ (fun b o hb n => ?_)
        · rw [upd_upd]
          exact w2 _
        · rw [upd_upd]
          exact w3 _
        · rw [upd_upd, upd_ne n.1]
          exact hb
end

/-! ### tuple * k; tuple(d); a, b, *c = t -/
namespace R22
open PySem PySem.Spec PyProof.Rows L2
def rRepA (K : PySem.W.Frag) : R2 := fun x y H Q => ∃ l k xs, x = .ref l ∧ y = .int k ∧ SqT K H l xs ∧ xs ≠ [] ∧ 1 ≤ k ∧ k ≤ 1000 ∧ xs.length ≤ 1000 ∧ ((k = 1 ∧ Q (.ref l) H) ∨ (1 < k ∧ ∀ p, H p = none → Q (.ref p) (L2.upd H p (.tup (List.replicate k.toNat xs).flatten))))
theorem mul1 (l : Addr) (o : Obj) (items : Array Value) (n : Nat) (hc : o.cls = .type "tuple") (hd : o.data = .seq items n) (u : Tok) :
    Meets (Builtin.«tuple.__mul__» ⟨[.ref l, .int 1 u], []⟩) (fun _ R s => s.heap.get? l = some o ∧ R (.ok (.ret (.ref l))) s) :=
  .of_wp fun prog w A R s hyp => by
    obtain ⟨hp, gg, dd, tt, oo⟩ := s
    obtain ⟨at1, hyp⟩ := hyp
    have ix := AutoSeq1.idx_int
    obtain ⟨cls, di, da, sl⟩ := o
    simp only at hc hd
    subst hc hd
    wp_walk using AutoSeq1.wpAny_loadPart' at1
    exact ⟨_, rfl, hyp⟩
section
variable {X : Cx}
theorem op_repA : OpR X (binaryOp .Mult) (rRepA X.K) := by
  intro pins s σ H x y v u Q I rx ry hyp
  obtain ⟨l, k, xs, e1, e2, hT, hne, b1, b2, hz, hyp⟩ := hyp
  rcases hyp with ⟨k1, q⟩ | ⟨k1, q⟩
  · subst e1 e2 k1
    cases rx
    obtain ⟨t, rfl⟩ := ry
    obtain ⟨its, rv, ⟨ob, at1, hc, n, hd⟩, _⟩ := I.tuple hT
    have at2 := at1
    have ty : s.TypeIs (.ref l) "tuple" := ⟨ob, at1, hc⟩
    obtain ⟨cls, di, da, sl⟩ := ob
    simp only at hc hd
    subst hc hd
    exact wpAny_binaryOp_repeat_ref (T := "tuple") (U := "int") (by decide) ty (fun s' => typeIs_int s' 1 t) noFill_tuple_mul F.fills_int_mul F.slot_int_rmul repeat_tuple F.slot_int_index.lookup
      (call_meets F.slot_int_rmul (typeIs_int s 1 t) F.entry_int_rmul (F.args_int_rmul_2 _ _) (int_rmul_tuple 1 t l its.toArray n di sl)
        ⟨at1, rfl, ty, call_meets F.slot_tuple_mul ty F.entry_tuple_mul (F.args_tuple_mul_2 _ _) (mul1 l _ _ _ rfl rfl t) ⟨at2, .ref l, H, I, rfl, q⟩⟩)
  · exact op_repT pins s σ H x y v u Q I rx ry ⟨l, k, xs, e1, e2, hT, hne, by omega, b2, hz, q⟩
end
/-! tuple(d) -/
section
variable {prog : Program} {w : World} {A : Around} {E : Value → Shared → Prop} {s : Shared} {T : String} {r d : Addr} {n : Nat} {P : Nat → Value → Prop} {OK : Heap → Prop}
theorem collected {Q : List Value → Shared → Prop} (src : PySem.W.KdlSrc prog w T r d n P OK) (hh : A.handled = none) (ok : OK s.heap) (small : n ≤ sizeLine)
    (k : ∀ (g : Heap) (tk : Nat) (acc : Array Value), (∀ b o, s.heap.get? b = some o → g.get? b = some o) → ItemsOf P acc n → Q acc.toList { s with heap := g, toks := tk }) :
    wpAny (model prog w) A (collect (.ref r)) Q E s := by
  obtain ⟨l1, l2⟩ := src.there _ ok
  unfold collect
  refine wpAny_bind (wpAny_runValue (codeAny_builtin F.entry_proto_collect ?_)); rw [Around.under_plainId F.plain_proto_collect _]
  change wpAny _ A.in1 (newList [] >>= fun x => again (.builtin "list.__iadd__" ⟨[x, .ref r], []⟩)) _ _ s
  refine wpAny_bind (wpAny_newObj_type (wpAny_pure ⟨plainId_quiet F.plain_list_iadd _, codeAny_builtin F.entry_list_iadd ?_⟩))
  rw [Around.under_plainId F.plain_list_iadd _]
  change wpAny _ A.in1 (Builtin.List.listExtendWith (.ref s.heap.objs.size) (.ref r) (.ref s.heap.objs.size)) _ _ _
  have old : ∀ b o, s.heap.get? b = some o → (s.heap.push { cls := .type "list", data := .seq ([] : List Value).toArray }).get? b = some o := fun b o q => Heap.get?_push_of_some _ q
  have fin : ∀ (g : Heap) (tk : Nat) (acc : Array Value) (c : Nat), (∀ b o, s.heap.get? b = some o → g.get? b = some o) → ItemsOf P acc n → g.get? s.heap.objs.size = some { cls := .type "list", dict := none, data := .seq acc c, slots := #[] } →
      wpAny (model prog w) A (do match (← load s.heap.objs.size).data with | Data.seq xs _ => pure xs.toList | _ => unsupported "internal:collect") Q E { s with heap := g, toks := tk } := fun g tk acc c kp ac at1 => wpAny_bind (wpAny_load at1 (wpAny_pure (k g tk acc kp ac)))
  refine wpAny_mono (PySem.W.kdl_extend (A := A) (R := fun f s2 => ∃ g tk acc c, f = .ok (.ret (.ref s.heap.objs.size)) ∧ s2 = { s with heap := g, toks := tk } ∧ (∀ b o, s.heap.get? b = some o → g.get? b = some o) ∧ ItemsOf P acc n ∧ g.get? s.heap.objs.size = some { cls := .type "list", dict := none, data := .seq acc c, slots := #[] })
    (s := { s with heap := s.heap.push { cls := .type "list", data := .seq ([] : List Value).toArray } }) src hh (src.keep _ _ ok fun b _ o q => old b o q) s.heap.objs.size (Nat.ne_of_gt l1) (Nat.ne_of_gt l2) _ 0 (Heap.get?_push_size _ rfl)
    (fun g tk acc c kp at1 ac => ⟨g, tk, acc, c, rfl, rfl, fun b o q => kp b o (Nat.ne_of_lt (Heap.lt_size q)) (old b o q), ac, at1⟩) small) (fun f s2 x => ?_) (fun e s2 x => ?_)
  · cases f with
    | done f =>
      obtain ⟨g, tk, acc, c, e1, rfl, kp, ac, at1⟩ := x
      cases e1
      exact fin g tk acc c kp ac at1
    | again c' =>
      refine ⟨x.1, codeAny_mono x.2 fun f' s3 y => ?_⟩
      obtain ⟨g, tk, acc, c, rfl, rfl, kp, ac, at1⟩ := y
      exact fin g tk acc c kp ac at1
  · obtain ⟨g, tk, acc, c, e1, _⟩ := x
    cases e1
theorem newed {Q : Value → Shared → Prop} (src : PySem.W.KdlSrc prog w T r d n P OK) (hh : A.handled = none) (ok : OK s.heap) (small : n ≤ sizeLine)
    (k : ∀ (g : Heap) (tk : Nat) (acc : Array Value), (∀ b o, s.heap.get? b = some o → g.get? b = some o) → ItemsOf P acc n → Q (.ref g.objs.size) { s with heap := g.push { cls := .type "tuple", data := .seq acc }, toks := tk }) :
    codeAny (model prog w) A (.call (.builtin "tuple.__new__") ⟨[.type "tuple", .ref r], []⟩) (wants Q E) s := by
  refine codeAny_of_tree ?_
  change wpAny _ A.in1 (do checkBuiltinCall "tuple.__new__" ⟨[.type "tuple", .ref r], []⟩; again (.builtin "tuple.__new__" ⟨[.type "tuple", .ref r], []⟩)) _ _ s
  refine wpAny_bind (wpAny_of_eq (F.newCall_tuple_1 _) (wpAny_pure ⟨plainId_quiet F.plain_tuple_new _, codeAny_builtin F.entry_tuple_new ?_⟩)); rw [Around.under_plainId F.plain_tuple_new _]
  have u1 := sub_tuple_self
  have u2 := init_tuple_lookup
  have u3 := madeHere_tuple
  have u4 : s.TypeIs (.ref r) T := src.type _ ok
  have u5 : A.in1.handled = none := hh
  have u6 := src.notTuple
  wp_walk using wpAny_typeOf u4, collected (A := A.in1) src u5 ok small
  intro g tk acc kp ac
  change wpAny _ _ (Builtin.Tuple.tupleExact acc.toList.toArray >>= fun x => ret x) _ _ _
  unfold Builtin.Tuple.tupleExact
  have ea : acc.toList.toArray = acc := by simp
  rw [ea]
  exact wpAny_bind (wpAny_newObj_type (wpAny_pure (k g tk acc kp ac)) (by change acc.size ≤ sizeLine; rw [ac.1]; exact small))
theorem told {Q : Value → Shared → Prop} (src : PySem.W.KdlSrc prog w T r d n P OK) (hh : A.handled = none) (ok : OK s.heap) (small : n ≤ sizeLine)
    (k : ∀ (g : Heap) (tk : Nat) (acc : Array Value), (∀ b o, s.heap.get? b = some o → g.get? b = some o) → ItemsOf P acc n → Q (.ref g.objs.size) { s with heap := g.push { cls := .type "tuple", data := .seq acc }, toks := tk }) :
    wpAny (model prog w) A (call (.type "tuple") [.ref r]) Q E s :=
  callType_codes (Q₁ := fun x s1 => s1.TypeIs x "tuple" ∧ Q x s1) F.called_tuple (F.typeCall_tuple_1 _) F.entry_object_init (newed (A := A.in1) src hh ok small fun g tk acc kp ac => ⟨⟨_, Heap.get?_push_size _ rfl, rfl⟩, k g tk acc kp ac⟩)
    fun x s1 y => ⟨y.1, F.args_object_init_2 x _, object_init_meets F.called_tuple.init.lookup F.called_tuple.made (by decide) prog w A.in1 _ s1 ⟨y.1, rfl, y.2⟩⟩
end
section
variable {X : Cx}
def rTupD : List V → Hp → VK → Prop := fun xs H Q => ∃ a kvs, xs = [.ref a] ∧ H a = some (.dK kvs) ∧ ∀ b, H b = none → Q (.ref b) (L2.upd H b (.tup (kvs.map fun z => kV z.1)))
theorem call_tuple_dict (hc : X.calm = true) : CallR X (.type "tuple") rTupD := by
  intro pins s σ H xs us Q I r hyp
  obtain ⟨a, kvs, e, hk, q⟩ := hyp
  subst e
  obtain ⟨u, eu, rx⟩ := vals1 r
  subst eu
  obtain rfl : u = Value.ref a := rx
  obtain ⟨small, lo, vs, rk, hd⟩ := (show ObjOk X.prog X.w H s.heap a (.dK kvs) from I.hok a _ hk)
  obtain ⟨ep, hat⟩ := hd.dictAt
  have ln : kvs.length = vs.length := Paired.length rk
  refine told (PySem.W.kdl_dict (knd := mixKind X.prog X.w) (kvs := vs) (ep := ep) lo) (I.ok.hd hc) hat (by rw [← ln]; exact small) fun g tk acc kp ac => ?_
  have I1 : Inv X pins σ H { s with heap := g, toks := tk } := I.kept kp
  refine ⟨.ref g.objs.size, L2.upd H g.objs.size (.tup (kvs.map fun z => kV z.1)), I1.laid (t' := tk) (fun b o q => Heap.get?_push_of_some _ q) (Nat.le_refl _) (show ObjOk X.prog X.w _ _ _ (.tup (kvs.map fun z => kV z.1)) from ⟨?_, acc.toList, ?_, ?_⟩), rfl, q _ (I1.hok.fresh (Nat.le_refl _))⟩
  · rw [List.length_map]
    exact small
  · have el : acc.toList.length = acc.size := by simp
    refine vals_of_at (by rw [List.length_map, el, ac.1, ln]) fun j x v h1 h2 => ?_
    obtain ⟨k, y, hky, hi⟩ := ac.2 j v (by rw [← Array.getElem?_toList]; exact h2)
    have e1 : (kvs.map fun z => kV z.1)[j]? = some (kV k) := by
      have := congrArg (fun l => (l[j]?).map kV) (KV.keys rk)
      simpa [List.getElem?_map, Option.map_map, Function.comp_def, hky] using this
    rw [e1] at h1
    cases h1
    exact keyIs_rel hi
  · rw [Array.toArray_toList]
    exact IsTup.new _ _
end
/-! a, .., *c = a tuple -/
theorem walk_from {prog : Program} {w : World} {A : Around} (hh : A.handled = none) (I ax : Addr) (hne : ax ≠ I) (items : Array Value) (k : Nat) (hk : k ≤ items.size) :
    Walks prog w A I [I, ax] [I] (items.size - k) (fun i v => items[k + i]? = some v) (fun i h => h.IsTupleIter I ax (k + i) ∧ h.IsTuple ax items) :=
  let W := Walks.tuple (prog := prog) (w := w) hh I ax hne items
  ⟨W.sub, fun i => W.frame (k + i), fun i s Q E hi st hQ => W.item (k + i) s Q E (by omega) st hQ,
    fun s Q E st hQ => W.done s Q E (by rw [show k + (items.size - k) = items.size by omega] at st; exact st) hQ, fun i => W.self (k + i)⟩
section
variable {prog : Program} {w : World} {A : Around} {E : Value → Shared → Prop} {s : Shared}
theorem items_star {t : Addr} {items : Array Value} {k : Nat} {Q : List Value → Shared → Prop} (hh : A.handled = none) (ht : IsTup s.heap t items) (hk : k ≤ items.size) (hz : items.size ≤ sizeLine)
    (hQ : ∀ (h' : Heap) (tk : Nat), (∀ b o, s.heap.get? b = some o → h'.get? b = some o) →
      Q (items.toList.take k ++ [.ref h'.objs.size]) { s with heap := h'.push { cls := .type "list", data := .seq (items.toList.drop k).toArray }, toks := tk }) :
    wpAny (model prog w) A (unpackItems (.ref t) (k + 1) (some k)) Q E s := by
  have hlt : t ≠ s.heap.objs.size := Nat.ne_of_lt ht.lt
  unfold unpackItems
  refine wpAny_bind ?_
  unfold notIterableAtAll
  refine wpAny_bind (wpAny_specialOf ht.typeIs slot_tuple_iter.lookup (wpAny_pure ?_))
  simp only [Bool.false_eq_true, if_false]
  refine wpAny_bind (wpAny_holding (iter_tuple ht ?_))
  refine wpAny_bind (wpAny_holding (draw_tuple hlt k 0 _ _ ⟨_, Heap.get?_push_size _ rfl, rfl, rfl⟩ (ht.push _) (by omega) fun g hit hs => ?_))
  rw [List.drop_zero, if_neg (by simp; omega)]
  have ht1 : IsTup g t items := (ht.push _).extBut hs.extBut hlt
  have l1 : s.heap.objs.size < g.objs.size := by obtain ⟨o, e, _⟩ := hit; exact Heap.lt_size e
  have l2 : t < g.objs.size := ht1.lt
  have hit1 : g.IsTupleIter s.heap.objs.size t (k + 0) := by rw [Nat.add_zero]; rw [Nat.zero_add] at hit; exact hit
  refine wpAny_bind (wpAny_holding (wpAny_collect_iter (T := "tuple_iterator") (.inr (.inr (.inr rfl))) (walk_from (A := A.in1) hh s.heap.objs.size t hlt items k hk).toS
    (fun _ _ st => let ⟨o, ho, hc, _⟩ := st.1; ⟨o, ho, hc⟩) ⟨hit1, ht1⟩ (fun b hb => ?_) (by simp) (fun s' acc hm ha => ?_) (by omega)))
  · simp only [List.mem_cons, List.not_mem_nil, or_false] at hb
    rcases hb with rfl | rfl
    · exact l1
    · exact l2
  · have ea : acc.toList = items.toList.drop k := by
      refine List.ext_getElem? fun j => ?_
      rw [List.getElem?_drop]
      by_cases hj : j < acc.size
      · have := ha.2 j acc[j] (by simp [hj])
        rw [Array.getElem?_toList, Array.getElem?_toList, this]
        simp [hj]
      · have h1 := ha.1
        rw [List.getElem?_eq_none (by simp; omega), List.getElem?_eq_none (by simp; omega)]
    rw [ea]
    have e0 : k + 1 - 1 - k = 0 := by omega
    simp only [e0, Nat.not_lt_zero, if_false, Nat.sub_zero]
    rw [List.take_of_length_le (Nat.le_refl _), List.drop_of_length_le (Nat.le_refl _)]
    refine wpAny_bind (wpAny_newObj_type (wpAny_pure ?_) (by change (items.toList.drop k).toArray.size ≤ sizeLine; simp; omega))
    obtain ⟨g1, gg, dd, tt, oo⟩ := s'
    obtain ⟨m1, m2, m3, m4, m5⟩ := hm
    simp only at m1 m2 m3 m4 m5 ⊢
    subst m2 m3 m4
    rw [List.append_nil]
    exact hQ g1 tt fun b o e => m1 b o (by simp; exact Nat.ne_of_lt (Heap.lt_size e)) (hs.extBut b o (Nat.ne_of_lt (Heap.lt_size e)) (Heap.get?_push_of_some _ e))
end
section
variable {X : Cx} {pos : Pos}
/-- (a, .., *c) = a tuple, k plain targets ahead of the last -/
def gStar (K : PySem.W.Frag) (k : Nat) (t : TGs) : TG := fun v σ H Q => ∃ a xs, v = .ref a ∧ SqT K H a xs ∧ k ≤ xs.length ∧ ∀ p, H p = none → t (xs.take k ++ [.ref p]) σ (L2.upd H p (.lst (xs.drop k))) Q
theorem pgs_star {e : Expr} {p : Pos} {t : TG} (h1 : PG X e t) (hs : (assignEach [.Starred e p] X.env).map (·.2) = [assign e X.env] := by rfl) : PGs X [.Starred e p] (gCons t gNil) := by
  refine ⟨fun pins s σ H vs us Q I r h => ?_⟩
  obtain ⟨v, vr, e1, h⟩ := h
  subst e1
  cases r with
  | cons r rr =>
    rw [hs]
    refine assignInOrder_cons (L2.thn (h1.run pins s σ H _ _ _ I r h) fun _ s1 y => ?_)
    obtain ⟨σ1, H1, I1, n1, q1⟩ := y
    subst n1
    cases rr
    exact assignInOrder_nil ⟨σ1, H1, I1, q1⟩
theorem pg_star {es : List Expr} {j k : Nat} {t : TGs} (hc : X.calm = true) (h : PGs X es t)
    (hn : (assignEach es X.env).length = k + 1 := by rfl) (hst : (assignEach es X.env).findIdx? (·.1) = some k := by rfl) : PG X (.Tuple es j pos) (gStar X.K k t) := by
  refine ⟨fun pins s σ H v u Q I r hw => ?_⟩
  obtain ⟨a, xs, e1, hq, hl, hw⟩ := hw
  subst e1
  cases r
  obtain ⟨its, rv, ht, hz⟩ := I.tuple hq
  rw [assign_Tuple]
  refine wpAny_bind (wpAny_standAt ?_)
  unfold unpack
  rw [hn, hst]
  refine wpAny_bind (wpAny_holding (items_star (I.ok.hd hc) ht (by have := rv.length; simp at *; omega) (by have := rv.length; simp at *; omega) fun h' tk kp => ?_))
  have I1 : Inv X pins σ H { s with heap := h', toks := tk } := I.kept kp
  have I2 := I1.laid (t' := tk) (h' := h'.push { cls := .type "list", data := .seq (its.drop k).toArray }) (fun b o q => Heap.get?_push_of_some _ q) (Nat.le_refl _) (show ObjOk X.prog X.w (L2.upd H h'.objs.size (.lst (xs.drop k))) _ h'.objs.size (.lst (xs.drop k)) from ⟨by rw [List.length_drop]; have := rv.length; simp at *; omega, its.drop k, _, rv.drop k, Heap.get?_push_size _ rfl⟩)
  refine h.run pins _ σ _ _ _ Q I2 ?_ (hw _ (I1.hok.fresh (Nat.le_refl _)))
  exact (rv.take k).append (.cons rfl .nil)
end
end R22

/-! ### runs: a path, then a ring over and over -/
theorem dec_str (x y : Str) : decide (V.str x = V.str y) = decide (x = y) := by
  by_cases h : x = y
  · rw [decide_eq_true h, decide_eq_true (by rw [h])]
  · rw [decide_eq_false h, decide_eq_false fun q => h (V.str.inj q)]
theorem dec_int (x y : Int) : decide (V.int x = V.int y) = decide (x = y) := by
  by_cases h : x = y
  · rw [decide_eq_true h, decide_eq_true (by rw [h])]
  · rw [decide_eq_false h, decide_eq_false fun q => h (V.int.inj q)]
theorem flat_int (xs : List Int) : (xs.map V.int).all flatV = true := by
  rw [List.all_map, List.all_eq_true]
  exact fun _ _ => rfl
theorem inV_int (z : Int) (xs : List Int) : inV (.int z) (xs.map V.int) = decide (z ∈ xs) := by
  unfold inV
  rw [List.any_map]
  by_cases h : z ∈ xs
  · rw [decide_eq_true h, List.any_eq_true]
    exact ⟨z, h, by simp [Function.comp, eqV]⟩
  · rw [decide_eq_false h, List.any_eq_false]
    intro y hy q
    exact h (by simp [Function.comp, eqV] at q; rw [← q]; exact hy)
/-- the standing at a place -/
def wk (p r : List Int) (k : Nat) : Int := if k < p.length then p.getD k 0 else r.getD ((k - p.length) % r.length) 0
theorem wk_path {p r : List Int} {k : Nat} (h : k < p.length) : (p.map V.int)[k]? = some (.int (wk p r k)) := by
  unfold wk
  rw [if_pos h, List.getElem?_map, List.getD_eq_getElem?_getD, List.getElem?_eq_getElem h]
  rfl
theorem wk_ring {p r : List Int} {k : Nat} (h : ¬ k < p.length) (hr : r ≠ []) : (r.map V.int)[(k - p.length) % r.length]? = some (.int (wk p r k)) := by
  have l : (k - p.length) % r.length < r.length := Nat.mod_lt _ (List.length_pos_iff.mpr hr)
  unfold wk
  rw [if_neg h, List.getElem?_map, List.getD_eq_getElem?_getD, List.getElem?_eq_getElem l]
  rfl
/-- a run, told as a pair of tuples -/
structure RunAt (K : PySem.W.Frag) (H : Hp) (a : Addr) (p r : List Int) : Prop where
  ex : ∃ pa ra : Addr, SqT K H a [.ref pa, .ref ra] ∧ SqT K H pa (p.map V.int) ∧ SqT K H ra (r.map V.int)
theorem RunAt.imm {K : PySem.W.Frag} {H H' : Hp} {a : Addr} {p r : List Int} (M : RunAt K H a p r) (e : Imm H H') : RunAt K H' a p r := by
  obtain ⟨pa, ra, h1, h2, h3⟩ := M.ex
  exact ⟨pa, ra, e.sq h1, e.sq h2, e.sq h3⟩
/-- a form -/
inductive Form where
  | next (one : List Int)
  | once (one : List Int)
  | ever (one : List Int)
  | til (one oth : List Int)
  | unl (one oth : List Int)
def Form.word : Form → Str
  | .next _ => "next"
  | .once _ => "once"
  | .ever _ => "ever"
  | .til _ _ => "until"
  | .unl _ _ => "unless"
def Form.one : Form → List Int
  | .next o => o
  | .once o => o
  | .ever o => o
  | .til o _ => o
  | .unl o _ => o
def Form.rest : Form → List (List Int)
  | .til _ o => [o]
  | .unl _ o => [o]
  | _ => []
structure FormAt (K : PySem.W.Frag) (H : Hp) (f : Addr) (φ : Form) : Prop where
  ex : ∃ (oa : Addr) (bs : List Addr), SqT K H f (.str φ.word :: .ref oa :: bs.map V.ref) ∧ SqT K H oa (φ.one.map V.int) ∧ Each (fun b o => SqT K H b (List.map V.int o)) bs φ.rest
theorem FormAt.imm {K : PySem.W.Frag} {H H' : Hp} {f : Addr} {φ : Form} (M : FormAt K H f φ) (e : Imm H H') : FormAt K H' f φ := by
  obtain ⟨oa, bs, h1, h2, h3⟩ := M.ex
  exact ⟨oa, bs, e.sq h1, e.sq h2, h3.imp fun _ _ h => e.sq h⟩
/-- gone through until one tells -/
def scan (one oth : List Int) (e : Bool) : List Int → Bool
  | [] => e
  | x :: t => if x ∈ oth then true else if x ∉ one then false else scan one oth e t
/-- what a form asks of an endless row -/
def Form.holds (w : Nat → Int) : Form → Prop
  | .next o => w 1 ∈ o
  | .once o => ∃ k, w k ∈ o
  | .ever o => ∀ k, w k ∈ o
  | .til o u => ∃ k, w k ∈ u ∧ ∀ j, j < k → w j ∈ o
  | .unl o u => (∃ k, w k ∈ u ∧ ∀ j, j < k → w j ∈ o) ∨ ∀ k, w k ∈ o
def Form.on (p r : List Int) : Form → Bool
  | .next o => decide (wk p r 1 ∈ o)
  | .once o => decide (∃ t ∈ p ++ r, t ∈ o)
  | .ever o => decide (∀ t ∈ p ++ r, t ∈ o)
  | .til o u => scan o u false (p ++ r)
  | .unl o u => scan o u true (p ++ r)
/-! what a cut, a joined, a repeated tuple tells, new or not -/
section
variable {K : PySem.W.Frag} {H : Hp}
theorem catQ {a b : Addr} {xs ys : List V} {Q : V → Hp → Prop} (ha : SqT K H a xs) (hb : SqT K H b ys) (q : ∀ c H', Same H H' → SqT K H' c (xs ++ ys) → Q (.ref c) H') :
    (xs = [] → Q (.ref b) H) ∧ (xs ≠ [] → ys = [] → Q (.ref a) H) ∧ (xs ≠ [] → ys ≠ [] → ∀ p, H p = none → Q (.ref p) (L2.upd H p (.tup (xs ++ ys)))) :=
  ⟨fun e => q b H (Same.refl _) (by rw [e]; exact hb), fun _ e => q a H (Same.refl _) (by rw [e, List.append_nil]; exact ha), fun _ _ p hp => q p _ (same_upd hp) (SqT.of upd_same)⟩
theorem slQ {a : Addr} {xs : List V} {lo hi : Option Int} {Q : V → Hp → Prop} (ha : SqT K H a xs) (q : ∀ c H', Same H H' → SqT K H' c (cutV xs lo hi) → Q (.ref c) H') :
    (HT.sIx xs.length 0 lo = 0 ∧ HT.sIx xs.length xs.length hi = xs.length → Q (.ref a) H) ∧ (¬ (HT.sIx xs.length 0 lo = 0 ∧ HT.sIx xs.length xs.length hi = xs.length) → ∀ p, H p = none → Q (.ref p) (L2.upd H p (.tup (cutV xs lo hi)))) :=
  ⟨fun e => q a H (Same.refl _) (by unfold cutV; rw [e.1, e.2, Nat.sub_zero, List.drop_zero, List.take_of_length_le (Nat.le_refl _)]; exact ha), fun _ p hp => q p _ (same_upd hp) (SqT.of upd_same)⟩
theorem repQ {a : Addr} {k : Int} {xs : List V} {Q : V → Hp → Prop} (ha : SqT K H a xs) (h1 : 1 ≤ k) (q : ∀ c H', Same H H' → SqT K H' c (List.replicate k.toNat xs).flatten → Q (.ref c) H') :
    (k = 1 ∧ Q (.ref a) H) ∨ (1 < k ∧ ∀ p, H p = none → Q (.ref p) (L2.upd H p (.tup (List.replicate k.toNat xs).flatten))) := by
  by_cases e : k = 1
  · subst e
    exact .inl ⟨rfl, q a H (Same.refl _) (by simpa using ha)⟩
  · exact .inr ⟨by omega, fun p hp => q p _ (same_upd hp) (SqT.of upd_same)⟩
variable {X : Cx}
def rCatQ (K : PySem.W.Frag) : R2 := fun x y H Q => ∃ a b xs ys, x = .ref a ∧ y = .ref b ∧ SqT K H a xs ∧ SqT K H b ys ∧ xs.length + ys.length ≤ sizeLine ∧ ∀ c H', Same H H' → SqT K H' c (xs ++ ys) → Q (.ref c) H'
theorem op_catQ : OpR X (binaryOp .Add) (rCatQ X.K) := fun pins s σ H x y v u Q I rx ry ⟨a, b, xs, ys, h1, h2, h3, h4, h5, q⟩ => op_catA pins s σ H x y v u Q I rx ry ⟨a, b, xs, ys, h1, h2, h3, h4, h5, catQ h3 h4 q⟩
def rSlQ (K : PySem.W.Frag) : V → Option Int → Option Int → Hp → VK → Prop := fun x lo hi H Q => ∃ a xs, x = .ref a ∧ SqT K H a xs ∧ ∀ c H', Same H H' → SqT K H' c (cutV xs lo hi) → Q (.ref c) H'
theorem sl_tupQ : SlR X (rSlQ X.K) := fun pins s σ H x v vl vu lo hi sl Q I rx hs pl pu ⟨a, xs, h1, h2, q⟩ => sl_tupA pins s σ H x v vl vu lo hi sl Q I rx hs pl pu ⟨a, xs, h1, h2, slQ h2 q⟩
def rRepQ (K : PySem.W.Frag) : R2 := fun x y H Q => ∃ l k xs, x = .ref l ∧ y = .int k ∧ SqT K H l xs ∧ xs ≠ [] ∧ 1 ≤ k ∧ k ≤ 1000 ∧ xs.length ≤ 1000 ∧ ∀ c H', Same H H' → SqT K H' c (List.replicate k.toNat xs).flatten → Q (.ref c) H'
theorem op_repQ : OpR X (binaryOp .Mult) (rRepQ X.K) := fun pins s σ H x y v u Q I rx ry ⟨a, k, xs, h1, h2, h3, h4, h5, h6, h7, q⟩ => R22.op_repA pins s σ H x y v u Q I rx ry ⟨a, k, xs, h1, h2, h3, h4, h5, h6, h7, repQ h3 h5 q⟩
end
/-! a dict as a set of numbers -/
def keyI (x : Int) : Key × V := (Sum.inl x, .bl true)
theorem put_key {F : List Int} {t : Int} (h : t ∉ F) : putK (F.map keyI) (Sum.inl t : Key) (.bl true) = (F ++ [t]).map keyI := by
  unfold putK
  rw [if_neg, List.map_append]
  · rfl
  · rw [List.any_map, List.any_eq_true]
    rintro ⟨x, hx, e⟩
    have : x = t := by simpa [keyI] using e
    exact h (by rw [← this]; exact hx)
theorem put_old {F : List Int} {t : Int} (h : t ∈ F) : putK (F.map keyI) (Sum.inl t : Key) (.bl true) = F.map keyI := by
  unfold putK
  rw [if_pos, List.map_map]
  · refine List.map_congr_left fun x _ => ?_
    show (if (keyI x).1 = Sum.inl t then ((keyI x).1, V.bl true) else keyI x) = keyI x
    split <;> rfl
  · rw [List.any_map, List.any_eq_true]
    exact ⟨t, h, by simp [keyI]⟩

/-! ### runs: the walks -/
abbrev sstanding_at : Stmt := topS 1
theorem scstanding_at : FnScope ["run", "place", "path", "ring"] ["run", "place"] (defScope sstanding_at) := ⟨rfl, rfl, rfl, by decide +kernel, rfl, by decide +kernel, by decide +kernel⟩
abbrev sstandings_of : Stmt := topS 2
theorem scstandings_of : FnScope ["run", "path", "ring", "one"] ["run"] (defScope sstandings_of) := ⟨rfl, rfl, rfl, by decide +kernel, rfl, by decide +kernel, by decide +kernel⟩
abbrev sholds_on : Stmt := topS 3
theorem scholds_on : FnScope ["form", "run", "word", "most", "more", "one"] ["form", "run"] (defScope sholds_on) := ⟨rfl, rfl, rfl, by decide +kernel, rfl, by decide +kernel, by decide +kernel⟩
section
variable {P : Program} {w : World} {K : PySem.W.Frag} {mg : Str → Option Value} {base : Heap}
def spStandAt (K : PySem.W.Frag) : Sp := fun vs H Q _ => ∃ (a : Addr) (p r : List Int) (k : Nat), vs = [.ref a, .int k] ∧ RunAt K H a p r ∧ r ≠ [] ∧ Q (.int (wk p r k)) H
theorem ok_standat {f : Addr} {fd : FuncData} (F : Fun K "standing_at" "standing_at" sstanding_at f fd) (T : Bi mg) : FnOk P w K mg base CX0 1 f fd ["run", "place"] (spStandAt K) := by
  refine F.ok scstanding_at (fun vs H Q E h => ?_) (fun cdv A outer s H vs Q E hr h => ?_)
  · obtain ⟨a, p, r, k, rfl, _⟩ := h
    rfl
  · obtain ⟨a, p, r, k, rfl, R, hne, q⟩ := h
    obtain ⟨pa, ra, h1, h2, h3⟩ := R.ex
    have hr0 : 0 < r.length := List.length_pos_iff.mpr hne
    refine ⟨_, (pss_cons (ps_asg (pv 0) (pg_tup rfl (pgs_cons (pg_name (i := 2) scstanding_at.nd rfl (.inl rfl)) (pgs_cons (pg_name (i := 3) scstanding_at.nd rfl (.inl rfl)) pgs_nil))))
      (pss_cons (ps_if (pt_cmpR op_lt (pv 1) (pe_callB call_len_seq (by rfl) T.len PySem.boot_len (pa_cons (pv 2) pa_nil)) (nomark _))
        (pss_one (ps_ret (pe_ix ix_tup (pv 2) (pv 1) (fun _ _ => rfl))))
        pss_nil)
      (pss_one (ps_ret (pe_ix ix_tup (pv 3) (pe_op op_mod (pe_op op_sub (pv 1) (pe_callB call_len_seq (by rfl) T.len PySem.boot_len (pa_cons (pv 2) pa_nil))) (pe_callB call_len_seq (by rfl) T.len PySem.boot_len (pa_cons (pv 3) pa_nil))) (fun _ _ => rfl)))))), ?_⟩
    refine ⟨_, rfl, a, _, rfl, h1, rfl, _, _, rfl, _, _, rfl, rfl, _, rfl, _, rfl, pa, _, rfl, .inr h2, _, _, rfl, rfl, _, rfl, ite2 (fun e => ?_) (fun e => ?_)⟩
    · have hk : k < p.length := by
        have := of_decide_eq_true e
        rw [List.length_map] at this
        omega
      exact ⟨_, rfl, _, rfl, pa, _, _, _, rfl, rfl, h2, at_of rfl (wk_path hk), q⟩
    · have hk : ¬ k < p.length := fun l => e (decide_eq_true (by rw [List.length_map]; omega))
      refine ⟨_, rfl, _, rfl, _, rfl, pa, _, rfl, .inr h2, _, _, rfl, rfl, _, rfl, ra, _, rfl, .inr h3, _, _, rfl, rfl, ?_, ra, _, _, _, rfl, rfl, h3, at_of ?_ (wk_ring hk hne), q⟩
      · show (0 : Int) < ((r.map V.int).length : Int)
        rw [List.length_map]
        omega
      · rw [List.length_map, List.length_map, Int.natCast_emod, Int.natCast_sub (by omega)]
def spStands (K : PySem.W.Frag) : Sp := fun vs H Q _ => ∃ (a : Addr) (p r : List Int), vs = [.ref a] ∧ RunAt K H a p r ∧ p.length + r.length ≤ 1000 ∧
  ∀ (H' : Hp) (b : Addr) (F : List Int), Same H H' → H' b = some (.tup (F.map V.int)) → F.length ≤ 1000 → (∀ t, t ∈ F ↔ t ∈ p ++ r) → Q (.ref b) H'
theorem ok_stands {f : Addr} {fd : FuncData} (F : Fun K "standings_of" "standings_of" sstandings_of f fd) (T : Bi mg) : FnOk P w K mg base CX0 1 f fd ["run"] (spStands K) := by
  refine F.ok scstandings_of (fun vs H Q E h => ?_) (fun cdv A outer s H vs Q E hr h => ?_)
  · obtain ⟨a, p, r, rfl, _⟩ := h
    rfl
  · obtain ⟨a, p, r, rfl, R, hl, q⟩ := h
    obtain ⟨pa, ra, h1, h2, h3⟩ := R.ex
    refine ⟨_, (pss_cons (ps_asg (pv 0) (pg_tup rfl (pgs_cons (pg_name (i := 1) scstandings_of.nd rfl (.inl rfl)) (pgs_cons (pg_name (i := 2) scstandings_of.nd rfl (.inl rfl)) pgs_nil))))
      (pss_one (ps_ret (pe_callTy (R22.call_tuple_dict rfl) (by rfl) T.tuple (by decide +kernel) (pa_cons (pe_dc (own := [("one", 3)]) (g := gName 3) rfl scstandings_of.nd (pi_tup (pe_op op_catQ (pv 1) (pv 2))) (blkOk_by (own := [("one", 3)]) (N := ["run", "path", "ring", "one"]) (sc := defScope sstandings_of) (by decide +kernel)) (fun _ _ _ _ _ => (pg_name (i := 3) scstandings_of.nd rfl (.inl rfl))) (fun _ _ _ _ _ => pts_nil) (fun _ _ _ _ _ => (pv 3)) (fun _ _ _ _ _ => pe_bl)) pa_nil))))), ?_⟩
    refine ⟨_, rfl, a, _, rfl, h1, rfl, _, _, rfl, _, _, rfl, rfl, _, rfl, _, rfl, pa, ra, _, _, rfl, rfl, h2, h3, ?_, fun c H1 s1 hc => ⟨c, rfl, ⟨_, hc⟩, fun D hD =>
      dc_tup (K := K) (a := c) (xs := p.map V.int ++ r.map V.int) (fun i H' => ∃ F : List Int, Same H1 H' ∧ H' D = some (.dK (F.map keyI)) ∧ F.length ≤ i ∧ ∀ t, t ∈ F ↔ t ∈ (p ++ r).take i)
        ⟨[], same_upd hD, upd_same, Nat.le_refl _, by simp⟩ (fun i H' _ ⟨F, s2, _⟩ => ssqt s2 hc) ?_ ?_⟩⟩
    · rw [List.length_map, List.length_map]
      exact szOk (by omega)
    · rintro i x H2 hx ⟨F, s2, f1, f2, f3⟩
      rw [← List.map_append] at hx
      obtain ⟨z, hz, rfl⟩ := map_get hx
      have hi : i < (p ++ r).length := (List.getElem?_eq_some_iff.mp hz).1
      have et : (p ++ r).take (i + 1) = (p ++ r).take i ++ [z] := by rw [List.take_succ, hz] <;> rfl
      rw [List.length_append] at hi
      refine ⟨rfl, iteT (B := False) ⟨_, rfl, _, Sum.inl z, rfl, f1, szLt (by rw [List.length_map]; omega), ?_⟩⟩
      by_cases hm : z ∈ F
      · refine ⟨F, smut s2 hD, by rw [upd_same, put_old hm], by omega, fun t => ?_⟩
        rw [et, List.mem_append, List.mem_singleton, f3]
        exact ⟨fun h => .inl h, fun h => h.elim id fun e => by rw [e]; exact (f3 z).mp hm⟩
      · refine ⟨F ++ [z], smut s2 hD, by rw [upd_same, put_key hm], by rw [List.length_append]; show F.length + 1 ≤ i + 1; omega, fun t => ?_⟩
        rw [et, List.mem_append, List.mem_singleton, List.mem_append, List.mem_singleton, f3]
    · rintro H2 ⟨F, s2, f1, f2, f3⟩
      rw [← List.map_append, List.length_map] at f2 f3
      rw [List.take_of_length_le (Nat.le_refl _)] at f3
      rw [List.length_append] at f2
      refine ⟨D, _, rfl, f1, fun b hb => q _ b F ((s1.trans s2).trans (same_upd hb)) ?_ (by omega) f3⟩
      rw [upd_same, List.map_map]
      rfl
theorem any_dec {F l o : List Int} (h : ∀ t, t ∈ F ↔ t ∈ l) : (F.map fun t => decide (t ∈ o)).any id = decide (∃ t ∈ l, t ∈ o) := by
  rw [List.any_map]
  by_cases e : ∃ t ∈ l, t ∈ o
  · obtain ⟨t, h1, h2⟩ := e
    rw [decide_eq_true ⟨t, h1, h2⟩, List.any_eq_true]
    exact ⟨t, (h t).mpr h1, decide_eq_true h2⟩
  · rw [decide_eq_false e, List.any_eq_false]
    exact fun t ht q => e ⟨t, (h t).mp ht, of_decide_eq_true q⟩
theorem all_dec {F l o : List Int} (h : ∀ t, t ∈ F ↔ t ∈ l) : (F.map fun t => decide (t ∈ o)).all id = decide (∀ t ∈ l, t ∈ o) := by
  rw [List.all_map]
  by_cases e : ∀ t ∈ l, t ∈ o
  · rw [decide_eq_true e, List.all_eq_true]
    exact fun t ht => decide_eq_true (e t ((h t).mp ht))
  · rw [decide_eq_false e, Bool.eq_false_iff]
    intro q
    exact e fun t ht => of_decide_eq_true (List.all_eq_true.mp q t ((h t).mpr ht))
theorem scan_step {one oth : List Int} {e : Bool} {l : List Int} {i : Nat} {x : Int} (h : l[i]? = some x) : scan one oth e (l.drop i) = if x ∈ oth then true else if x ∉ one then false else scan one oth e (l.drop (i + 1)) := by
  obtain ⟨hi, rfl⟩ := List.getElem?_eq_some_iff.mp h
  rw [List.drop_eq_getElem_cons hi]
  rfl
def spHolds (K : PySem.W.Frag) : Sp := fun vs H Q _ => ∃ (f a : Addr) (φ : Form) (p r : List Int), vs = [.ref f, .ref a] ∧ FormAt K H f φ ∧ RunAt K H a p r ∧ r ≠ [] ∧ p.length + r.length ≤ 1000 ∧ ∀ H', Same H H' → Q (.bl (φ.on p r)) H'
theorem ok_holds {f : Addr} {fd : FuncData} (F : Fun K "holds_on" "holds_on" sholds_on f fd) (T : Bi mg) (cstanding_at : Cal P w K mg base 1 "standing_at" ["run", "place"] (spStandAt K)) (cstandings_of : Cal P w K mg base 1 "standings_of" ["run"] (spStands K)) :
    FnOk P w K mg base CX0 2 f fd ["form", "run"] (spHolds K) := by
  refine F.ok scholds_on (fun vs H Q E h => ?_) (fun cdv A outer s H vs Q E hr h => ?_)
  · obtain ⟨f, a, φ, p, r, rfl, _⟩ := h
    rfl
  · obtain ⟨f, a, φ, p, r, rfl, M, R, hne, hl, q⟩ := h
    obtain ⟨oa, bs, h1, h2, h3⟩ := M.ex
    refine ⟨_, (pss_cons (ps_asg (pv 0) (R22.pg_star (k := 2) rfl (pgs_cons (pg_name (i := 2) scholds_on.nd rfl (.inl rfl)) (pgs_cons (pg_name (i := 3) scholds_on.nd rfl (.inr rfl)) (R22.pgs_star (pg_name (i := 4) scholds_on.nd rfl (.inl rfl)))))))
      (pss_cons (ps_if (pt_cmpR op_eq (pv 2) pe_str (nomark _))
        (pss_one (ps_ret (pe_cmpR op_in_seq (pe_call cstanding_at.G hr (by rfl) cstanding_at.g cstanding_at.kp cstanding_at.b .nil pass0 (pa_cons (pv 1) (pa_cons pe_int pa_nil))) (pv 3) (by rfl))))
        pss_nil)
      (pss_cons (ps_if (pt_cmpR op_eq (pv 2) pe_str (nomark _))
        (pss_one (ps_ret (pe_callB (cr_any rfl) (by rfl) T.any (by decide +kernel) (pa_cons (pe_lc (own := [("one", 5)]) (g := gName 5) rfl scholds_on.nd (pi_tup (pe_call cstandings_of.G hr (by rfl) cstandings_of.g cstandings_of.kp cstandings_of.b .nil pass0 (pa_cons (pv 1) pa_nil))) (blkOk_by (own := [("one", 5)]) (N := ["form", "run", "word", "most", "more", "one"]) (sc := defScope sholds_on) (by decide +kernel)) (fun _ _ _ _ _ => (pg_name (i := 5) scholds_on.nd rfl (.inl rfl))) (fun _ _ _ _ _ => pts_nil) (fun _ _ _ _ _ => (pe_cmpR (inS K) (pv 5) (pv 3) (by rfl)))) pa_nil))))
        pss_nil)
      (pss_cons (ps_if (pt_cmpR op_eq (pv 2) pe_str (nomark _))
        (pss_one (ps_ret (pe_callB (cr_all rfl) (by rfl) T.all (by decide +kernel) (pa_cons (pe_lc (own := [("one", 5)]) (g := gName 5) rfl scholds_on.nd (pi_tup (pe_call cstandings_of.G hr (by rfl) cstandings_of.g cstandings_of.kp cstandings_of.b .nil pass0 (pa_cons (pv 1) pa_nil))) (blkOk_by (own := [("one", 5)]) (N := ["form", "run", "word", "most", "more", "one"]) (sc := defScope sholds_on) (by decide +kernel)) (fun _ _ _ _ _ => (pg_name (i := 5) scholds_on.nd rfl (.inl rfl))) (fun _ _ _ _ _ => pts_nil) (fun _ _ _ _ _ => (pe_cmpR (inS K) (pv 5) (pv 3) (by rfl)))) pa_nil))))
        pss_nil)
      (pss_cons (ps_for PassesOwn.never rfl (pi_tup (pe_op op_catQ (pe_ix ix_tup (pv 1) pe_int (fun _ _ => rfl)) (pe_ix ix_tup (pv 1) pe_int (fun _ _ => rfl)))) (pg_name (i := 5) scholds_on.nd rfl (.inl rfl))
        (pss_cons (ps_if (pt_cmpR op_in_seq (pv 5) (pe_ix ix_list (pv 4) pe_int (fun _ _ => rfl)) (by rfl))
          (pss_one (ps_ret pe_bl))
          pss_nil)
        (pss_one (ps_if (pt_cmpR op_notIn_seq (pv 5) (pv 3) (by rfl))
          (pss_one (ps_ret pe_bl))
          pss_nil))))
      (pss_one (ps_ret (pe_cmpR op_eq (pv 2) pe_str (nomark _))))))))), ?_⟩
    refine ⟨_, rfl, f, _, rfl, h1, Nat.le_add_left _ _, fun m hm => ⟨_, _, rfl, _, _, rfl, _, _, rfl, rfl, ?_⟩⟩
    have s0 : Same H (L2.upd H m (.lst (List.drop 2 (V.str φ.word :: V.ref oa :: bs.map V.ref)))) := same_upd hm
    have hM : (L2.upd H m (.lst (List.drop 2 (V.str φ.word :: V.ref oa :: bs.map V.ref)))) m = some (.lst (bs.map V.ref)) := upd_same
    generalize L2.upd H m (.lst (List.drop 2 (V.str φ.word :: V.ref oa :: bs.map V.ref))) = H0 at s0 hM ⊢
    have R0 := R.imm (simm s0)
    have o0 := ssqt s0 h2
    obtain ⟨pa, ra, r1, r2, r3⟩ := R0.ex
    cases φ with
    | next o =>
      refine ⟨_, rfl, rfl, _, rfl, ?_⟩
      rw [dec_str, decide_eq_true (show Form.word (.next o) = Str.ofString "next" from rfl)]
      refine iteT ⟨_, rfl, a, p, r, 1, rfl, R0, hne, _, rfl, oa, _, rfl, .inr o0, rfl, flat_int _, ?_⟩
      show Q (.bl (inV (.int (wk p r 1)) (List.map V.int o))) H0
      rw [inV_int]
      exact q H0 s0
    | once o =>
      refine ⟨_, rfl, rfl, _, rfl, ?_⟩
      rw [dec_str, decide_eq_false (show ¬ Form.word (.once o) = Str.ofString "next" from (by decide +kernel : ¬ Str.ofString "once" = Str.ofString "next"))]
      refine iteF ⟨_, rfl, rfl, _, rfl, ?_⟩
      rw [dec_str, decide_eq_true (show Form.word (.once o) = Str.ofString "once" from rfl)]
      refine iteT ⟨_, rfl, a, p, r, rfl, R0, hl, fun H1 b F s1 hb fl fm => ⟨b, rfl, ⟨_, SqT.of hb⟩, fun D hD => lc_tupS (K := K) (a := b) (fun i acc => acc = (F.take i).map fun t => V.bl (decide (t ∈ o))) (SqT.of hb) hD (by rw [List.length_map]; omega) rfl (fun _ => rfl) ?_ ?_⟩⟩
      · intro i x H2 acc hx s2 hacc _ N1 N2 k1 k2
        obtain ⟨z, hz, rfl⟩ := map_get hx
        refine iteT (B := False) ⟨_, rfl, _, rfl, oa, _, rfl, .inr (ssqt s2 (ssqt s1 o0)), rfl, flat_int _, ?_⟩
        refine k1 _ _ (Same.refl _) ?_
        show acc ++ [V.bl (inV (.int z) (List.map V.int o))] = _
        rw [inV_int, hacc, List.take_succ, hz, List.map_append]
        rfl
      · intro H2 acc s2 hD2 _ hacc
        rw [List.length_map, List.take_of_length_le (Nat.le_refl _)] at hacc
        refine ⟨D, F.map fun t => decide (t ∈ o), rfl, SqL.of (by rw [hD2, hacc, List.map_map]; rfl), ?_⟩
        rw [any_dec fm]
        exact q H2 ((s0.trans s1).trans s2)
    | ever o =>
      refine ⟨_, rfl, rfl, _, rfl, ?_⟩
      rw [dec_str, decide_eq_false (show ¬ Form.word (.ever o) = Str.ofString "next" from (by decide +kernel : ¬ Str.ofString "ever" = Str.ofString "next"))]
      refine iteF ⟨_, rfl, rfl, _, rfl, ?_⟩
      rw [dec_str, decide_eq_false (show ¬ Form.word (.ever o) = Str.ofString "once" from (by decide +kernel : ¬ Str.ofString "ever" = Str.ofString "once"))]
      refine iteF ⟨_, rfl, rfl, _, rfl, ?_⟩
      rw [dec_str, decide_eq_true (show Form.word (.ever o) = Str.ofString "ever" from rfl)]
      refine iteT ⟨_, rfl, a, p, r, rfl, R0, hl, fun H1 b F s1 hb fl fm => ⟨b, rfl, ⟨_, SqT.of hb⟩, fun D hD => lc_tupS (K := K) (a := b) (fun i acc => acc = (F.take i).map fun t => V.bl (decide (t ∈ o))) (SqT.of hb) hD (by rw [List.length_map]; omega) rfl (fun _ => rfl) ?_ ?_⟩⟩
      · intro i x H2 acc hx s2 hacc _ N1 N2 k1 k2
        obtain ⟨z, hz, rfl⟩ := map_get hx
        refine iteT (B := False) ⟨_, rfl, _, rfl, oa, _, rfl, .inr (ssqt s2 (ssqt s1 o0)), rfl, flat_int _, ?_⟩
        refine k1 _ _ (Same.refl _) ?_
        show acc ++ [V.bl (inV (.int z) (List.map V.int o))] = _
        rw [inV_int, hacc, List.take_succ, hz, List.map_append]
        rfl
      · intro H2 acc s2 hD2 _ hacc
        rw [List.length_map, List.take_of_length_le (Nat.le_refl _)] at hacc
        refine ⟨D, F.map fun t => decide (t ∈ o), rfl, SqL.of (by rw [hD2, hacc, List.map_map]; rfl), ?_⟩
        rw [all_dec fm]
        exact q H2 ((s0.trans s1).trans s2)
    | til o u =>
      obtain ⟨ob, hob, rfl⟩ : ∃ ob, SqT K H ob (u.map V.int) ∧ bs = [ob] := by
        cases h3 with
        | cons x y =>
          cases y
          exact ⟨_, x, rfl⟩
      have u0 := ssqt s0 hob
      refine ⟨_, rfl, rfl, _, rfl, ?_⟩
      rw [dec_str, decide_eq_false (show ¬ Form.word (.til o u) = Str.ofString "next" from (by decide +kernel : ¬ Str.ofString "until" = Str.ofString "next"))]
      refine iteF ⟨_, rfl, rfl, _, rfl, ?_⟩
      rw [dec_str, decide_eq_false (show ¬ Form.word (.til o u) = Str.ofString "once" from (by decide +kernel : ¬ Str.ofString "until" = Str.ofString "once"))]
      refine iteF ⟨_, rfl, rfl, _, rfl, ?_⟩
      rw [dec_str, decide_eq_false (show ¬ Form.word (.til o u) = Str.ofString "ever" from (by decide +kernel : ¬ Str.ofString "until" = Str.ofString "ever"))]
      refine iteF ?_
      refine ⟨_, rfl, a, _, 0, .ref pa, rfl, rfl, r1, at_of (j := 0) rfl rfl, _, rfl, a, _, 1, .ref ra, rfl, rfl, r1, at_of (j := 1) rfl rfl, pa, ra, _, _, rfl, rfl, r2, r3, szOk (by rw [List.length_map, List.length_map]; omega), fun c H1 s1 hc => ⟨c, rfl, ⟨_, hc⟩,
        for_tup (K := K) (a := c) (xs := p.map V.int ++ r.map V.int) (fun i σ H' => ∃ y : Option V, σ = [some (.ref f), some (.ref a), some (.str (Form.word (.til o u))), some (.ref oa), some (.ref m), y] ∧ Same H1 H' ∧ Form.on p r (.til o u) = scan o u false ((p ++ r).drop i))
          ⟨none, rfl, Same.refl _, rfl⟩ (fun i σ H' _ ⟨_, _, s2, _⟩ => ssqt s2 hc) ?_ ?_⟩⟩
      · rintro i x σ H3 hx ⟨y, rfl, s2, e⟩
        rw [← List.map_append] at hx
        obtain ⟨z, hz, rfl⟩ := map_get hx
        rw [scan_step hz] at e
        have s3 := (s0.trans s1).trans s2
        refine ⟨_, rfl, _, rfl, m, _, 0, .ref ob, rfl, rfl, SqL.of ((s1.trans s2) _ _ hM), at_of (j := 0) rfl rfl, ob, _, rfl, .inr (ssqt (s1.trans s2) u0), rfl, flat_int _, _, rfl, ?_⟩
        rw [inV_int]
        refine ite2 (fun e1 => ?_) (fun e1 => ?_)
        · rw [if_pos (of_decide_eq_true e1)] at e
          have := q H3 s3
          rw [e] at this
          exact this
        · rw [if_neg (fun k => e1 (decide_eq_true k))] at e
          refine ⟨_, rfl, _, rfl, oa, _, rfl, .inr (ssqt (s1.trans s2) o0), rfl, flat_int _, _, rfl, ?_⟩
          rw [inV_int]
          refine ite2 (fun e2 => ?_) (fun e2 => ?_)
          · have n2 : z ∉ o := notdec e2
            rw [if_pos n2] at e
            have := q H3 s3
            rw [e] at this
            exact this
          · have n2 : ¬ z ∉ o := fun k => e2 (by show (!decide (z ∈ o)) = true; rw [decide_eq_false k]; rfl)
            rw [if_neg n2] at e
            exact ⟨_, rfl, s2, e⟩
      · rintro σ H3 ⟨y, rfl, s2, e⟩
        refine ⟨_, rfl, rfl, ?_⟩
        rw [dec_str, decide_eq_false (show ¬ Form.word (.til o u) = Str.ofString "unless" from (by decide +kernel : ¬ Str.ofString "until" = Str.ofString "unless"))]
        rw [List.drop_of_length_le (by simp)] at e
        have := q H3 ((s0.trans s1).trans s2)
        rw [show Form.on p r (.til o u) = false from e] at this
        exact this
    | unl o u =>
      obtain ⟨ob, hob, rfl⟩ : ∃ ob, SqT K H ob (u.map V.int) ∧ bs = [ob] := by
        cases h3 with
        | cons x y =>
          cases y
          exact ⟨_, x, rfl⟩
      have u0 := ssqt s0 hob
      refine ⟨_, rfl, rfl, _, rfl, ?_⟩
      rw [dec_str, decide_eq_false (show ¬ Form.word (.unl o u) = Str.ofString "next" from (by decide +kernel : ¬ Str.ofString "unless" = Str.ofString "next"))]
      refine iteF ⟨_, rfl, rfl, _, rfl, ?_⟩
      rw [dec_str, decide_eq_false (show ¬ Form.word (.unl o u) = Str.ofString "once" from (by decide +kernel : ¬ Str.ofString "unless" = Str.ofString "once"))]
      refine iteF ⟨_, rfl, rfl, _, rfl, ?_⟩
      rw [dec_str, decide_eq_false (show ¬ Form.word (.unl o u) = Str.ofString "ever" from (by decide +kernel : ¬ Str.ofString "unless" = Str.ofString "ever"))]
      refine iteF ?_
      refine ⟨_, rfl, a, _, 0, .ref pa, rfl, rfl, r1, at_of (j := 0) rfl rfl, _, rfl, a, _, 1, .ref ra, rfl, rfl, r1, at_of (j := 1) rfl rfl, pa, ra, _, _, rfl, rfl, r2, r3, szOk (by rw [List.length_map, List.length_map]; omega), fun c H1 s1 hc => ⟨c, rfl, ⟨_, hc⟩,
        for_tup (K := K) (a := c) (xs := p.map V.int ++ r.map V.int) (fun i σ H' => ∃ y : Option V, σ = [some (.ref f), some (.ref a), some (.str (Form.word (.unl o u))), some (.ref oa), some (.ref m), y] ∧ Same H1 H' ∧ Form.on p r (.unl o u) = scan o u true ((p ++ r).drop i))
          ⟨none, rfl, Same.refl _, rfl⟩ (fun i σ H' _ ⟨_, _, s2, _⟩ => ssqt s2 hc) ?_ ?_⟩⟩
      · rintro i x σ H3 hx ⟨y, rfl, s2, e⟩
        rw [← List.map_append] at hx
        obtain ⟨z, hz, rfl⟩ := map_get hx
        rw [scan_step hz] at e
        have s3 := (s0.trans s1).trans s2
        refine ⟨_, rfl, _, rfl, m, _, 0, .ref ob, rfl, rfl, SqL.of ((s1.trans s2) _ _ hM), at_of (j := 0) rfl rfl, ob, _, rfl, .inr (ssqt (s1.trans s2) u0), rfl, flat_int _, _, rfl, ?_⟩
        rw [inV_int]
        refine ite2 (fun e1 => ?_) (fun e1 => ?_)
        · rw [if_pos (of_decide_eq_true e1)] at e
          have := q H3 s3
          rw [e] at this
          exact this
        · rw [if_neg (fun k => e1 (decide_eq_true k))] at e
          refine ⟨_, rfl, _, rfl, oa, _, rfl, .inr (ssqt (s1.trans s2) o0), rfl, flat_int _, _, rfl, ?_⟩
          rw [inV_int]
          refine ite2 (fun e2 => ?_) (fun e2 => ?_)
          · have n2 : z ∉ o := notdec e2
            rw [if_pos n2] at e
            have := q H3 s3
            rw [e] at this
            exact this
          · have n2 : ¬ z ∉ o := fun k => e2 (by show (!decide (z ∈ o)) = true; rw [decide_eq_false k]; rfl)
            rw [if_neg n2] at e
            exact ⟨_, rfl, s2, e⟩
      · rintro σ H3 ⟨y, rfl, s2, e⟩
        refine ⟨_, rfl, rfl, ?_⟩
        rw [dec_str, decide_eq_true (show Form.word (.unl o u) = Str.ofString "unless" from rfl)]
        rw [List.drop_of_length_le (by simp)] at e
        have := q H3 ((s0.trans s1).trans s2)
        rw [show Form.on p r (.unl o u) = true from e] at this
        exact this
end

/-! ### the law's own parts -/
abbrev s_law_truth : Stmt := topS 7
theorem sc_law_truth : FnScope ["_law_found", "_law_due"] ["_law_found", "_law_due"] (defScope s_law_truth) := ⟨rfl, rfl, rfl, by decide +kernel, rfl, by decide +kernel, by decide +kernel⟩
abbrev s_law_unrolled : Stmt := topS 8
theorem sc_law_unrolled : FnScope ["_law_run", "_law_laps", "_law_many", "_law_path", "_law_ring", "_law_turn"] ["_law_run", "_law_laps", "_law_many"] (defScope s_law_unrolled) := ⟨rfl, rfl, rfl, by decide +kernel, rfl, by decide +kernel, by decide +kernel⟩
abbrev s_law_at : Stmt := topS 9
theorem sc_law_at : FnScope ["_law_run", "_law_place"] ["_law_run", "_law_place"] (defScope s_law_at) := ⟨rfl, rfl, rfl, by decide +kernel, rfl, by decide +kernel, by decide +kernel⟩
abbrev s_law_drawn_run : Stmt := topS 10
theorem sc_law_drawn_run : FnScope ["_law_pool_here", "_law_some", "_law_most", "_law_wide", "_law_path", "_law_ring", "_law_k"] ["_law_pool_here", "_law_some", "_law_most", "_law_wide"] (defScope s_law_drawn_run) := ⟨rfl, rfl, rfl, by decide +kernel, rfl, by decide +kernel, by decide +kernel⟩
abbrev s_law_share : Stmt := topS 11
theorem sc_law_share : FnScope ["_law_pool_here", "_law_share_here", "_law_k"] ["_law_pool_here"] (defScope s_law_share) := ⟨rfl, rfl, rfl, by decide +kernel, rfl, by decide +kernel, by decide +kernel⟩
section
variable {P : Program} {w : World} {K : PySem.W.Frag} {mg : Str → Option Value} {base : Heap}
theorem dec_bl (x y : Bool) : decide (V.bl x = V.bl y) = decide (x = y) := by
  cases x <;> cases y <;> rfl
def spTruth : Sp := fun vs H Q _ => ∃ x y : Bool, vs = [.bl x, .bl y] ∧ Q (.bl (decide (x = y))) H
theorem ok_truth {f : Addr} {fd : FuncData} (F : Fun K "_law_truth" "_law_truth" s_law_truth f fd) (T : Bi mg) : FnOk P w K mg base CX0 1 f fd ["_law_found", "_law_due"] spTruth := by
  refine F.ok sc_law_truth (fun vs H Q E h => ?_) (fun cdv A outer s H vs Q E hr h => ?_)
  · obtain ⟨x, y, rfl, _⟩ := h
    rfl
  · obtain ⟨x, y, rfl, q⟩ := h
    refine ⟨_, (pss_one (ps_ret (pe_and (pe_callB call_isi (by rfl) T.isinstance (by decide +kernel) (pa_cons (pv 0) (pa_cons (pe_bltn (v := .ty "bool") (u := .type "bool") (by rfl) T.bool (by decide +kernel) rfl) pa_nil))) (pe_one (pe_cmpR op_eq (pv 0) (pv 1) (nomark _)))))), ?_⟩
    refine ⟨_, rfl, _, _, _, _, true, rfl, .ty "bool", .base (.bl _), kit_ty (by decide +kernel), true, rfl, iteT ⟨_, rfl, _, rfl, rfl, ?_⟩⟩
    rw [dec_bl]
    exact q
/-- the ring from t on, l times; the path longer by m -/
def unP (p r : List Int) (m : Nat) : List Int := p ++ ((List.replicate (m / r.length + 1) r).flatten).take m
def unR (r : List Int) (m l : Nat) : List Int := (List.replicate l (r.drop (m % r.length) ++ r.take (m % r.length))).flatten
theorem map_flat (l : Nat) (r : List Int) : (List.replicate l (r.map V.int)).flatten = ((List.replicate l r).flatten).map V.int := by
  rw [List.map_flatten, List.map_replicate]
theorem cut_to (r : List Int) (m : Nat) : cutV (r.map V.int) none (some (m : Int)) = (r.take m).map V.int := by
  unfold cutV
  rw [HT.sIx_nat, HT.sIx_none, List.length_map, Nat.sub_zero, List.drop_zero, ← List.map_take]
  congr 1
  rw [Nat.min_def]
  split
  · rfl
  · rw [List.take_of_length_le (Nat.le_refl _), List.take_of_length_le (by omega)]
theorem cut_on (r : List Int) (m : Nat) (h : m ≤ r.length) : cutV (r.map V.int) (some (m : Int)) none = (r.drop m).map V.int := by
  unfold cutV
  rw [HT.sIx_nat, HT.sIx_none, List.length_map, Nat.min_eq_left h, ← List.map_drop, ← List.map_take]
  rw [List.take_of_length_le (by rw [List.length_drop]; exact Nat.le_refl _)]
def spUnrolled (K : PySem.W.Frag) : Sp := fun vs H Q _ => ∃ (a : Addr) (p r : List Int) (l m : Nat), vs = [.ref a, .int l, .int m] ∧ RunAt K H a p r ∧ r ≠ [] ∧ p.length ≤ 10 ∧ r.length ≤ 10 ∧ 1 ≤ l ∧ l ≤ 10 ∧ m ≤ 400 ∧
  ∀ (H' : Hp) (b : Addr), Same H H' → RunAt K H' b (unP p r m) (unR r m l) → Q (.ref b) H'
theorem ok_unrolled {f : Addr} {fd : FuncData} (F : Fun K "_law_unrolled" "_law_unrolled" s_law_unrolled f fd) (T : Bi mg) : FnOk P w K mg base CX0 1 f fd ["_law_run", "_law_laps", "_law_many"] (spUnrolled K) := by
  refine F.ok sc_law_unrolled (fun vs H Q E h => ?_) (fun cdv A outer s H vs Q E hr h => ?_)
  · obtain ⟨a, p, r, l, m, rfl, _⟩ := h
    rfl
  · obtain ⟨a, p, r, l, m, rfl, R, hne, hp, hr', l1, l2, hm, q⟩ := h
    obtain ⟨pa, ra, h1, h2, h3⟩ := R.ex
    have hr0 : 0 < r.length := List.length_pos_iff.mpr hne
    have hne' : r.map V.int ≠ [] := by simpa using hne
    have hd : m / r.length ≤ m := Nat.div_le_self _ _
    refine ⟨_, (pss_cons (ps_asg (pv 0) (pg_tup rfl (pgs_cons (pg_name (i := 3) sc_law_unrolled.nd rfl (.inl rfl)) (pgs_cons (pg_name (i := 4) sc_law_unrolled.nd rfl (.inl rfl)) pgs_nil))))
      (pss_cons (ps_set (i := 5) sc_law_unrolled.nd rfl (.inl rfl) (pe_op op_sub (pv 2) (pe_op op_mul (pe_op op_fdiv (pv 2) (pe_callB call_len_seq (by rfl) T.len PySem.boot_len (pa_cons (pv 4) pa_nil))) (pe_callB call_len_seq (by rfl) T.len PySem.boot_len (pa_cons (pv 4) pa_nil)))))
      (pss_one (ps_ret (pe_tup (pa_cons (pe_op op_catQ (pv 3) (pe_slice sl_tupQ (pe_op op_repQ (pv 4) (pe_op op_add (pe_op op_fdiv (pv 2) (pe_callB call_len_seq (by rfl) T.len PySem.boot_len (pa_cons (pv 4) pa_nil))) pe_int)) po_none (po_some (pv 2)))) (pa_cons (pe_op op_repQ (pe_op op_catQ (pe_slice sl_tupQ (pv 4) (po_some (pv 5)) po_none) (pe_slice sl_tupQ (pv 4) po_none (po_some (pv 5)))) (pv 1)) pa_nil))))))), ?_⟩
    refine ⟨_, rfl, a, _, rfl, h1, rfl, _, _, rfl, _, _, rfl, rfl, ?_⟩
    -- the turn
    refine ⟨_, rfl, _, rfl, _, rfl, ra, _, rfl, .inr h3, _, _, rfl, rfl, ⟨by rw [List.length_map]; omega, by rw [List.length_map]; omega⟩, _, rfl, ra, _, rfl, .inr h3, _, _, rfl, rfl, .inr ⟨by rw [List.length_map]; omega, by rw [List.length_map]; omega⟩, _, _, rfl, rfl, ?_⟩
    rw [List.length_map]
    have et : ((m : Int) - (m : Int) / (r.length : Int) * (r.length : Int)) = ((m % r.length : Nat) : Int) := by
      rw [Int.natCast_emod, Int.emod_def, Int.mul_comm]
    have ht : m % r.length < r.length := Nat.mod_lt _ hr0
    have ek : ((m : Int) / (r.length : Int) + 1) = ((m / r.length + 1 : Nat) : Int) := by
      rw [Int.natCast_add, Int.natCast_ediv]
      rfl
    dsimp only
    rw [et]
    refine ⟨_, rfl, _, rfl, _, rfl, _, rfl, ra, _, rfl, .inr h3, _, _, rfl, rfl, ⟨by rw [List.length_map]; omega, by rw [List.length_map]; omega⟩, _, _, rfl, rfl, ra, _, _, rfl, rfl, h3, hne', ?_, ?_, by rw [List.length_map]; omega, fun c H1 s1 hc => ?_⟩
    · rw [List.length_map, ek]
      exact Int.ofNat_le.mpr (Nat.le_add_left 1 _)
    · rw [List.length_map, ek]
      exact Int.ofNat_le.mpr (show m / r.length + 1 ≤ 1000 by omega)
    rw [List.length_map, ek, Int.toNat_natCast, map_flat] at hc
    refine ⟨_, rfl, _, rfl, c, _, rfl, hc, fun d H2 s2 hd => ?_⟩
    rw [cut_to] at hd
    refine ⟨pa, d, _, _, rfl, rfl, ssqt (s1.trans s2) h2, hd, ?_, fun e H3 s3 he => ?_⟩
    · rw [List.length_map, List.length_map, List.length_take]
      exact szOk (by omega)
    rw [← List.map_append] at he
    have s13 := (s1.trans s2).trans s3
    refine ⟨_, rfl, _, rfl, _, rfl, ra, _, rfl, ssqt s13 h3, fun g H4 s4 hg => ?_⟩
    rw [cut_on _ _ (by omega)] at hg
    refine ⟨_, rfl, _, rfl, _, rfl, ra, _, rfl, ssqt (s13.trans s4) h3, fun k H5 s5 hk => ?_⟩
    rw [cut_to] at hk
    refine ⟨g, k, _, _, rfl, rfl, ssqt s5 hg, hk, ?_, fun n H6 s6 hn => ?_⟩
    · rw [List.length_map, List.length_map, List.length_take, List.length_drop]
      exact szOk (by omega)
    rw [← List.map_append] at hn
    have ll : (r.drop (m % r.length) ++ r.take (m % r.length)).length = r.length := by
      rw [List.length_append, List.length_take, List.length_drop]
      omega
    refine ⟨_, rfl, n, _, _, rfl, rfl, hn, ?_, by omega, by omega, by rw [List.length_map]; omega, fun z H7 s7 hz => ?_⟩
    · intro e0
      have := congrArg List.length e0
      rw [List.length_map, ll] at this
      exact absurd this (by show ¬ r.length = 0; omega)
    rw [Int.toNat_natCast, map_flat] at hz
    refine ⟨by show 2 ≤ sizeLine; decide, fun b hb => ?_⟩
    have s47 := ((s4.trans s5).trans s6).trans s7
    exact q _ b ((s13.trans s47).trans (same_upd hb)) ⟨e, z, SqT.of upd_same, ssqt (s47.trans (same_upd hb)) he, ssqt (same_upd hb) hz⟩
def spLAt (K : PySem.W.Frag) : Sp := fun vs H Q _ => ∃ (a : Addr) (p r : List Int) (k : Nat), vs = [.ref a, .int k] ∧ RunAt K H a p r ∧ r ≠ [] ∧ Q (.int (wk p r k)) H
theorem ok_lat {f : Addr} {fd : FuncData} (F : Fun K "_law_at" "_law_at" s_law_at f fd) (T : Bi mg) : FnOk P w K mg base CX0 1 f fd ["_law_run", "_law_place"] (spLAt K) := by
  refine F.ok sc_law_at (fun vs H Q E h => ?_) (fun cdv A outer s H vs Q E hr h => ?_)
  · obtain ⟨a, p, r, k, rfl, _⟩ := h
    rfl
  · obtain ⟨a, p, r, k, rfl, R, hne, q⟩ := h
    obtain ⟨pa, ra, h1, h2, h3⟩ := R.ex
    have hr0 : 0 < r.length := List.length_pos_iff.mpr hne
    refine ⟨_, (pss_cons (ps_if (pt_cmpR op_lt (pv 1) (pe_callB call_len_seq (by rfl) T.len PySem.boot_len (pa_cons (pe_ix ix_tup (pv 0) pe_int (fun _ _ => rfl)) pa_nil)) (nomark _))
        (pss_one (ps_ret (pe_ix ix_tup (pe_ix ix_tup (pv 0) pe_int (fun _ _ => rfl)) (pv 1) (fun _ _ => rfl))))
        pss_nil)
      (pss_one (ps_ret (pe_ix ix_tup (pe_ix ix_tup (pv 0) pe_int (fun _ _ => rfl)) (pe_op op_mod (pe_op op_sub (pv 1) (pe_callB call_len_seq (by rfl) T.len PySem.boot_len (pa_cons (pe_ix ix_tup (pv 0) pe_int (fun _ _ => rfl)) pa_nil))) (pe_callB call_len_seq (by rfl) T.len PySem.boot_len (pa_cons (pe_ix ix_tup (pv 0) pe_int (fun _ _ => rfl)) pa_nil))) (fun _ _ => rfl))))), ?_⟩
    refine ⟨_, rfl, _, rfl, a, _, 0, .ref pa, rfl, rfl, h1, at_of (j := 0) rfl rfl, pa, _, rfl, .inr h2, _, _, rfl, rfl, _, rfl, ite2 (fun e => ?_) (fun e => ?_)⟩
    · have hk : k < p.length := by
        have := of_decide_eq_true e
        rw [List.length_map] at this
        omega
      exact ⟨_, rfl, a, _, 0, .ref pa, rfl, rfl, h1, at_of (j := 0) rfl rfl, _, rfl, pa, _, _, _, rfl, rfl, h2, at_of rfl (wk_path hk), q⟩
    · have hk : ¬ k < p.length := fun l => e (decide_eq_true (by rw [List.length_map]; omega))
      refine ⟨_, rfl, a, _, 1, .ref ra, rfl, rfl, h1, at_of (j := 1) rfl rfl, _, rfl, _, rfl, a, _, 0, .ref pa, rfl, rfl, h1, at_of (j := 0) rfl rfl, pa, _, rfl, .inr h2, _, _, rfl, rfl, _, rfl, a, _, 1, .ref ra, rfl, rfl, h1, at_of (j := 1) rfl rfl, ra, _, rfl, .inr h3, _, _, rfl, rfl, ?_, ra, _, _, _, rfl, rfl, h3, at_of ?_ (wk_ring hk hne), q⟩
      · show (0 : Int) < ((r.map V.int).length : Int)
        rw [List.length_map]
        omega
      · rw [List.length_map, List.length_map, Int.natCast_emod, Int.natCast_sub (by omega)]
def spDrawnRun (K : PySem.W.Frag) : Sp := fun vs H Q _ => ∃ (A : PA) (c : Nat) (l : Addr) (ns : List Int) (most wide : Nat), vs = [.ref A.p, .ref l, .int most, .int wide] ∧ Pool H A c ∧ c < 900000 ∧ H l = some (.lst (ns.map V.int)) ∧ Off A l ∧ ns ≠ [] ∧ ns.length ≤ 100 ∧ 1 ≤ most ∧ most ≤ 100 ∧ 1 ≤ wide ∧ wide ≤ 100 ∧
  ∀ (H' : Hp) (b : Addr) (p r : List Int), r ≠ [] → p.length < most → r.length ≤ wide → RunAt K H' b p r → Pool H' A (c + 2 + most + wide) → Kp A H H' → Q (.ref b) H'
theorem ok_drawnrun {f : Addr} {fd : FuncData} (F : Fun K "_law_drawn_run" "_law_drawn_run" s_law_drawn_run f fd) (T : Bi mg) (c_law_draw : Cal P w K mg base 1 "_law_draw" ["_law_pool_here", "_law_many"] spDraw) : FnOk P w K mg base CX0 2 f fd ["_law_pool_here", "_law_some", "_law_most", "_law_wide"] (spDrawnRun K) := by
  refine F.ok sc_law_drawn_run (fun vs H Q E h => ?_) (fun cdv A outer s H vs Q E hr h => ?_)
  · obtain ⟨A, c, l, ns, most, wide, rfl, _⟩ := h
    rfl
  · obtain ⟨PL, c, l, ns, most, wide, rfl, P0, hc, hl, ol, hne, hl1, m1, m2, w1, w2, q⟩ := h
    have hn0 : 0 < ns.length := List.length_pos_iff.mpr hne
    have pick1 : ∀ d : Int, 0 ≤ d → d < ns.length → ∃ x, (ns.map V.int)[d.toNat]? = some (.int x) := fun d d0 d1 => ⟨ns[d.toNat]'(by omega), get_map (List.getElem?_eq_getElem _)⟩
    refine ⟨_, (pss_cons (ps_set (i := 4) sc_law_drawn_run.nd rfl (.inl rfl) (pe_callTy call_tuple_of (by rfl) T.tuple (by decide +kernel) (pa_cons (pe_lc (own := [("_law_k", 6)]) (g := gName 6) rfl sc_law_drawn_run.nd (pi_range1 (by rfl) T.range (pa_cons (pe_call c_law_draw.G hr (by rfl) c_law_draw.g c_law_draw.kp c_law_draw.b .nil pass0 (pa_cons (pv 0) (pa_cons (pv 2) pa_nil))) pa_nil)) (blkOk_by (own := [("_law_k", 6)]) (N := ["_law_pool_here", "_law_some", "_law_most", "_law_wide", "_law_path", "_law_ring", "_law_k"]) (sc := defScope s_law_drawn_run) (by decide +kernel)) (fun _ _ _ _ _ => (pg_name (i := 6) sc_law_drawn_run.nd rfl (.inl rfl))) (fun _ _ _ _ _ => pts_nil) (fun _ _ _ _ _ => (pe_ix (ixL K) (pv 1) (pe_call c_law_draw.G hr (by rfl) c_law_draw.g c_law_draw.kp c_law_draw.b .nil pass0 (pa_cons (pv 0) (pa_cons (pe_callB (lenS K) (by rfl) T.len PySem.boot_len (pa_cons (pv 1) pa_nil)) pa_nil))) (fun _ _ => rfl)))) pa_nil)))
      (pss_cons (ps_set (i := 5) sc_law_drawn_run.nd rfl (.inl rfl) (pe_callTy call_tuple_of (by rfl) T.tuple (by decide +kernel) (pa_cons (pe_lc (own := [("_law_k", 6)]) (g := gName 6) rfl sc_law_drawn_run.nd (pi_range1 (by rfl) T.range (pa_cons (pe_op op_add pe_int (pe_call c_law_draw.G hr (by rfl) c_law_draw.g c_law_draw.kp c_law_draw.b .nil pass0 (pa_cons (pv 0) (pa_cons (pv 3) pa_nil)))) pa_nil)) (blkOk_by (own := [("_law_k", 6)]) (N := ["_law_pool_here", "_law_some", "_law_most", "_law_wide", "_law_path", "_law_ring", "_law_k"]) (sc := defScope s_law_drawn_run) (by decide +kernel)) (fun _ _ _ _ _ => (pg_name (i := 6) sc_law_drawn_run.nd rfl (.inl rfl))) (fun _ _ _ _ _ => pts_nil) (fun _ _ _ _ _ => (pe_ix (ixL K) (pv 1) (pe_call c_law_draw.G hr (by rfl) c_law_draw.g c_law_draw.kp c_law_draw.b .nil pass0 (pa_cons (pv 0) (pa_cons (pe_callB (lenS K) (by rfl) T.len PySem.boot_len (pa_cons (pv 1) pa_nil)) pa_nil))) (fun _ _ => rfl)))) pa_nil)))
      (pss_one (ps_ret (pe_tup (pa_cons (pv 4) (pa_cons (pv 5) pa_nil))))))), ?_⟩
    refine ⟨_, rfl, _, rfl, PL, c, _, rfl, P0, by omega, by omega, by omega, fun H1 n n0 n1 P1 K1 => ⟨n, rfl, by omega, by omega, fun D hD =>
      lc_rangeP (a := PL) 1 (fun i acc => ∃ gs : List Int, acc = gs.map V.int ∧ gs.length = i) P1 hD (by omega) ⟨[], rfl, rfl⟩ (fun _ => rfl) ?_ ?_⟩⟩
    · rintro i H2 acc hi P2 K2 ⟨gs, rfl, hg⟩ _ N1 N2 k1 k2
      have hl2 := (K1.trans K2) _ _ hl ol
      refine iteT (B := False) ⟨_, rfl, _, rfl, _, rfl, l, _, rfl, .inl (SqL.of hl2), PL, _, _, rfl, P2, by omega, by rw [List.length_map]; omega, by rw [List.length_map]; omega, fun H3 d d0 d1 P3 K3 => ?_⟩
      rw [List.length_map] at d1
      obtain ⟨x, hx⟩ := pick1 d d0 d1
      exact ⟨l, _, _, _, rfl, rfl, SqL.of (K3 _ _ hl2 ol), at_of (by omega) hx, k1 _ _ P3 K3 ⟨gs ++ [x], by rw [List.map_append]; rfl, by rw [List.length_append, hg]; rfl⟩⟩
    · rintro H2 acc P2 K2 hD2 _ ⟨gs, rfl, hg⟩ oD
      refine ⟨D, _, rfl, .inl ⟨SqL.of hD2, fun t ht => ?_⟩⟩
      have P2' : Pool (L2.upd H2 t (.tup (gs.map V.int))) PL (c + 1 + n.toNat * 1) := P2.upd (P2.off ht)
      have K2' : Kp PL H (L2.upd H2 t (.tup (gs.map V.int))) := (K1.trans K2).trans (skp (same_upd ht))
      have hT : SqT K (L2.upd H2 t (.tup (gs.map V.int))) t (gs.map V.int) := SqT.of upd_same
      generalize L2.upd H2 t (.tup (gs.map V.int)) = H3 at P2' K2' hT ⊢
      refine ⟨_, rfl, _, rfl, PL, _, _, rfl, P2', by omega, by omega, by omega, fun H4 n2 n20 n21 P4 K4 => ⟨_, _, rfl, rfl, 1 + n2, rfl, by omega, by omega, fun D2 hD2' =>
        lc_rangeP (a := PL) 1 (fun i acc => ∃ gs : List Int, acc = gs.map V.int ∧ gs.length = i) P4 hD2' (by omega) ⟨[], rfl, rfl⟩ (fun _ => rfl) ?_ ?_⟩⟩
      · rintro i H5 acc hi P5 K5 ⟨gs2, rfl, hg2⟩ _ N1 N2 k1 k2
        have hl2 := ((K2'.trans K4).trans K5) _ _ hl ol
        refine iteT (B := False) ⟨_, rfl, _, rfl, _, rfl, l, _, rfl, .inl (SqL.of hl2), PL, _, _, rfl, P5, by omega, by rw [List.length_map]; omega, by rw [List.length_map]; omega, fun H6 d d0 d1 P6 K6 => ?_⟩
        rw [List.length_map] at d1
        obtain ⟨x, hx⟩ := pick1 d d0 d1
        exact ⟨l, _, _, _, rfl, rfl, SqL.of (K6 _ _ hl2 ol), at_of (by omega) hx, k1 _ _ P6 K6 ⟨gs2 ++ [x], by rw [List.map_append]; rfl, by rw [List.length_append, hg2]; rfl⟩⟩
      · rintro H5 acc P5 K5 hD5 _ ⟨gs2, rfl, hg2⟩ oD2
        refine ⟨D2, _, rfl, .inl ⟨SqL.of hD5, fun t2 ht2 => ?_⟩⟩
        refine ⟨_, rfl, _, rfl, by show 2 ≤ sizeLine; decide, fun b hb => ?_⟩
        have P6 := P5.upd (o := .tup (gs2.map V.int)) (P5.off ht2)
        have sb := same_upd (o := HO.tup [.ref t, .ref t2]) hb
        have s2 := same_upd (o := HO.tup (gs2.map V.int)) ht2
        refine q _ b gs gs2 ?_ (by omega) (by omega) ⟨t, t2, SqT.of upd_same, ?_, ?_⟩ ?_ ?_
        · intro e
          rw [e] at hg2
          simp at hg2
          omega
        · exact (simm (s2.trans sb)).sq ((P4.imm K5).sq ((P2'.imm K4).sq hT))
        · exact ssqt sb (SqT.of upd_same)
        · exact (P6.upd (P6.off hb)).mono (by omega)
        · exact ((K2'.trans K4).trans K5).trans (skp (s2.trans sb))
def spShare (K : PySem.W.Frag) : Sp := fun vs H Q _ => ∃ (A : PA) (c : Nat), vs = [.ref A.p] ∧ Pool H A c ∧ c < 900000 ∧
  ∀ (H' : Hp) (b : Addr) (F : List Int), SqT K H' b (List.map V.int F) → Pool H' A (c + 41) → Kp A H H' → Q (.ref b) H'
theorem ok_share {f : Addr} {fd : FuncData} (F : Fun K "_law_share" "_law_share" s_law_share f fd) (T : Bi mg) (c_law_draw : Cal P w K mg base 1 "_law_draw" ["_law_pool_here", "_law_many"] spDraw) : FnOk P w K mg base CX0 2 f fd ["_law_pool_here"] (spShare K) := by
  refine F.ok sc_law_share (fun vs H Q E h => ?_) (fun cdv A outer s H vs Q E hr h => ?_)
  · obtain ⟨A, c, rfl, _⟩ := h
    rfl
  · obtain ⟨PL, c, rfl, P0, hc, q⟩ := h
    refine ⟨_, (pss_cons (ps_set (i := 1) sc_law_share.nd rfl (.inr rfl) (pe_call c_law_draw.G hr (by rfl) c_law_draw.g c_law_draw.kp c_law_draw.b .nil pass0 (pa_cons (pv 0) (pa_cons pe_int pa_nil))))
      (pss_one (ps_ret (pe_callTy call_tuple_of (by rfl) T.tuple (by decide +kernel) (pa_cons (pe_lc (own := [("_law_k", 2)]) (g := gName 2) rfl sc_law_share.nd (pi_range1 (by rfl) T.range (pa_cons pe_int pa_nil)) (blkOk_by (own := [("_law_k", 2)]) (N := ["_law_pool_here", "_law_share_here", "_law_k"]) (sc := defScope s_law_share) (by decide +kernel)) (fun _ _ _ _ _ => (pg_name (i := 2) sc_law_share.nd rfl (.inl rfl))) (fun _ _ _ _ _ => (pts_one (pt_cmpR op_lt (pe_call c_law_draw.G hr (by rfl) c_law_draw.g c_law_draw.kp c_law_draw.b .nil pass0 (pa_cons (pv 0) (pa_cons pe_int pa_nil))) (pv 1) (nomark _)))) (fun _ _ _ _ _ => (pv 2))) pa_nil))))), ?_⟩
    refine ⟨_, rfl, PL, c, _, rfl, P0, by omega, by decide, by decide, fun H1 n n0 n1 P1 K1 => ⟨40, rfl, by decide, by decide, fun D hD =>
      lc_rangeP (a := PL) 1 (fun i acc => ∃ gs : List Int, acc = gs.map V.int) P1 hD (by decide) ⟨[], rfl⟩ (fun _ => rfl) ?_ ?_⟩⟩
    · rintro i H2 acc hi P2 K2 ⟨gs, rfl⟩ _ N1 N2 k1 k2
      have hi' : i < 40 := hi
      refine ⟨_, rfl, PL, _, _, rfl, P2, by omega, by decide, by decide, fun H3 d d0 d1 P3 K3 => ⟨_, rfl, _, _, rfl, rfl, _, rfl, ite2 (fun e => ?_) (fun e => ?_)⟩⟩
      · exact ⟨_, rfl, k1 _ _ P3 K3 ⟨gs ++ [_], by rw [List.map_append]; rfl⟩⟩
      · exact k2 _ P3 K3 ⟨gs, rfl⟩
    · rintro H2 acc P2 K2 hD2 _ ⟨gs, rfl⟩ oD
      exact ⟨D, _, rfl, .inl ⟨SqL.of hD2, fun t ht => q _ t gs (SqT.of upd_same) ((P2.upd (P2.off ht)).mono (by show c + 1 + 40 * 1 ≤ c + 41; omega)) ((K1.trans K2).trans (skp (same_upd ht)))⟩⟩
end

/-! ### the plain law: what a form asks of a run, by a run's written places -/
section
variable {p r o u : List Int}
theorem wk_get {k : Nat} (h : k < p.length + r.length) : (p ++ r)[k]? = some (wk p r k) := by
  unfold wk
  by_cases hk : k < p.length
  · rw [List.getElem?_append_left hk, if_pos hk, List.getD_eq_getElem?_getD, List.getElem?_eq_getElem hk]
    rfl
  · have hl : k - p.length < r.length := by omega
    rw [List.getElem?_append_right (by omega), if_neg hk, Nat.mod_eq_of_lt hl, List.getD_eq_getElem?_getD, List.getElem?_eq_getElem hl]
    rfl
theorem wk_fold (hr : r ≠ []) (k : Nat) : ∃ j, j < p.length + r.length ∧ j ≤ k ∧ wk p r j = wk p r k := by
  have h0 : 0 < r.length := List.length_pos_iff.mpr hr
  by_cases hk : k < p.length
  · exact ⟨k, by omega, Nat.le_refl _, rfl⟩
  · have h1 := Nat.mod_lt (k - p.length) h0
    have h2 := Nat.mod_le (k - p.length) r.length
    refine ⟨p.length + (k - p.length) % r.length, by omega, by omega, ?_⟩
    unfold wk
    rw [if_neg (by omega), if_neg hk, Nat.add_sub_cancel_left, Nat.mod_mod]
theorem til_fold (hr : r ≠ []) : (∃ k, wk p r k ∈ u ∧ ∀ j, j < k → wk p r j ∈ o) ↔ ∃ k, k < p.length + r.length ∧ wk p r k ∈ u ∧ ∀ j, j < k → wk p r j ∈ o := by
  constructor
  · rintro ⟨k, a, b⟩
    obtain ⟨j, h1, h2, h3⟩ := wk_fold (p := p) hr k
    exact ⟨j, h1, by rw [h3]; exact a, fun i hi => b i (by omega)⟩
  · rintro ⟨k, _, a⟩
    exact ⟨k, a⟩
theorem all_fold (hr : r ≠ []) : (∀ k, wk p r k ∈ o) ↔ ∀ k, k < p.length + r.length → wk p r k ∈ o := by
  constructor
  · exact fun h k _ => h k
  · intro h k
    obtain ⟨j, h1, _, h3⟩ := wk_fold (p := p) hr k
    rw [← h3]
    exact h j h1
theorem ex_fold (hr : r ≠ []) : (∃ k, wk p r k ∈ o) ↔ ∃ k, k < p.length + r.length ∧ wk p r k ∈ o := by
  constructor
  · rintro ⟨k, h⟩
    obtain ⟨j, h1, _, h3⟩ := wk_fold (p := p) hr k
    exact ⟨j, h1, by rw [h3]; exact h⟩
  · rintro ⟨k, _, h⟩
    exact ⟨k, h⟩
theorem mem_places {t : Int} : t ∈ p ++ r ↔ ∃ k, k < p.length + r.length ∧ wk p r k = t := by
  rw [List.mem_iff_getElem?]
  constructor
  · rintro ⟨k, h⟩
    have hk : k < p.length + r.length := by
      have := (List.getElem?_eq_some_iff.mp h).1
      rw [List.length_append] at this
      exact this
    rw [wk_get hk] at h
    exact ⟨k, hk, Option.some.inj h⟩
  · rintro ⟨k, hk, e⟩
    exact ⟨k, by rw [wk_get hk, e]⟩
theorem scan_holds {e : Bool} : ∀ (l : List Int) (w : Nat → Int), (∀ k, k < l.length → l[k]? = some (w k)) →
    (scan o u e l = true ↔ (∃ k, k < l.length ∧ w k ∈ u ∧ ∀ j, j < k → w j ∈ o) ∨ (e = true ∧ ∀ k, k < l.length → w k ∈ o))
  | [], w, _ => by
    constructor
    · exact fun h => .inr ⟨h, fun k hk => absurd hk (Nat.not_lt_zero k)⟩
    · rintro (⟨k, hk, _⟩ | ⟨h, _⟩)
      · exact absurd hk (Nat.not_lt_zero k)
      · exact h
  | x :: t, w, hw => by
    have e0 : x = w 0 := Option.some.inj (hw 0 (Nat.succ_pos _))
    have ih := scan_holds (e := e) t (fun k => w (k + 1)) fun k hk => hw (k + 1) (Nat.succ_lt_succ hk)
    unfold scan
    by_cases h1 : x ∈ u
    · rw [if_pos h1]
      exact ⟨fun _ => .inl ⟨0, Nat.succ_pos _, by rw [← e0]; exact h1, fun j hj => absurd hj (Nat.not_lt_zero j)⟩, fun _ => rfl⟩
    · rw [if_neg h1]
      by_cases h2 : x ∈ o
      · rw [if_neg (fun k => k h2), ih]
        constructor
        · rintro (⟨k, hk, a, b⟩ | ⟨h, a⟩)
          · refine .inl ⟨k + 1, Nat.succ_lt_succ hk, a, fun j hj => ?_⟩
            cases j with
            | zero => rw [← e0]; exact h2
            | succ j => exact b j (by omega)
          · refine .inr ⟨h, fun k hk => ?_⟩
            cases k with
            | zero => rw [← e0]; exact h2
            | succ k => exact a k (Nat.lt_of_succ_lt_succ hk)
        · rintro (⟨k, hk, a, b⟩ | ⟨h, a⟩)
          · cases k with
            | zero => exact absurd (by rw [e0]; exact a) h1
            | succ k => exact .inl ⟨k, Nat.lt_of_succ_lt_succ hk, a, fun j hj => b (j + 1) (by omega)⟩
          · exact .inr ⟨h, fun k hk => a (k + 1) (Nat.succ_lt_succ hk)⟩
      · rw [if_pos h2]
        constructor
        · exact fun h => absurd h Bool.false_ne_true
        · rintro (⟨k, hk, a, b⟩ | ⟨h, a⟩)
          · cases k with
            | zero => exact absurd (by rw [e0]; exact a) h1
            | succ k => exact absurd (by rw [e0]; exact b 0 (Nat.succ_pos _)) h2
          · exact absurd (by rw [e0]; exact a 0 (Nat.succ_pos _)) h2
theorem on_holds (hr : r ≠ []) (φ : Form) : φ.on p r = true ↔ φ.holds (wk p r) := by
  have key : ∀ k, k < (p ++ r).length → (p ++ r)[k]? = some (wk p r k) := fun k hk => wk_get (by rw [List.length_append] at hk; exact hk)
  cases φ with
  | next o => exact decide_eq_true_iff
  | once o =>
    show decide _ = true ↔ ∃ k, wk p r k ∈ o
    rw [decide_eq_true_iff, ex_fold hr]
    constructor
    · rintro ⟨t, ht, h⟩
      obtain ⟨k, hk, e⟩ := mem_places.mp ht
      exact ⟨k, hk, by rw [e]; exact h⟩
    · rintro ⟨k, hk, h⟩
      exact ⟨_, mem_places.mpr ⟨k, hk, rfl⟩, h⟩
  | ever o =>
    show decide _ = true ↔ ∀ k, wk p r k ∈ o
    rw [decide_eq_true_iff, all_fold hr]
    constructor
    · exact fun h k hk => h _ (mem_places.mpr ⟨k, hk, rfl⟩)
    · intro h t ht
      obtain ⟨k, hk, e⟩ := mem_places.mp ht
      rw [← e]
      exact h k hk
  | til o u =>
    show scan o u false (p ++ r) = true ↔ ∃ k, wk p r k ∈ u ∧ ∀ j, j < k → wk p r j ∈ o
    rw [scan_holds _ (wk p r) key, List.length_append, til_fold hr]
    exact ⟨fun h => h.elim id fun h => absurd h.1 Bool.false_ne_true, .inl⟩
  | unl o u =>
    show scan o u true (p ++ r) = true ↔ (∃ k, wk p r k ∈ u ∧ ∀ j, j < k → wk p r j ∈ o) ∨ ∀ k, wk p r k ∈ o
    rw [scan_holds _ (wk p r) key, List.length_append, til_fold hr, all_fold hr]
    exact ⟨fun h => h.imp id fun h => h.2, fun h => h.imp id fun h => ⟨rfl, h⟩⟩
/-- the law's trail -/
def trl (p r : List Int) : List Int := (List.range (p.length + r.length + 1)).map (wk p r)
theorem trl_get {k : Nat} (h : k < p.length + r.length + 1) : (trl p r)[k]? = some (wk p r k) := by
  unfold trl
  rw [List.getElem?_map, List.getElem?_range h]
  rfl
theorem trl_mem {t : Int} : t ∈ trl p r ↔ ∃ k, k < p.length + r.length + 1 ∧ wk p r k = t := by
  unfold trl
  simp only [List.mem_map, List.mem_range]
theorem trl_take {k : Nat} {t : Int} (h : k ≤ p.length + r.length) : t ∈ (trl p r).take k ↔ ∃ j, j < k ∧ wk p r j = t := by
  have e : (trl p r).take k = (List.range k).map (wk p r) := by
    unfold trl
    rw [← List.map_take, List.take_range, Nat.min_eq_left (by omega)]
  rw [e]
  simp only [List.mem_map, List.mem_range]
theorem trl_all (hr : r ≠ []) : (trl p r).filter (fun t => !decide (t ∈ o)) = [] ↔ ∀ k, wk p r k ∈ o := by
  rw [List.filter_eq_nil_iff, all_fold hr]
  constructor
  · exact fun h k hk => dec_of (h _ (trl_mem.mpr ⟨k, by omega, rfl⟩))
  · intro h t ht q
    obtain ⟨k, _, e⟩ := trl_mem.mp ht
    exact notdec q (by rw [← e]; exact (all_fold hr).mpr h k)
theorem trl_some (hr : r ≠ []) : (trl p r).filter (fun t => decide (t ∈ o)) ≠ [] ↔ ∃ k, wk p r k ∈ o := by
  constructor
  · intro h
    obtain ⟨t, ht⟩ := List.exists_mem_of_ne_nil _ h
    obtain ⟨h1, h2⟩ := List.mem_filter.mp ht
    obtain ⟨k, _, e⟩ := trl_mem.mp h1
    exact ⟨k, by rw [e]; exact of_decide_eq_true h2⟩
  · intro h e
    obtain ⟨k, hk, h⟩ := (ex_fold hr).mp h
    exact (List.filter_eq_nil_iff.mp e) _ (trl_mem.mpr ⟨k, by omega, rfl⟩) (decide_eq_true h)
theorem trl_ahead {k : Nat} (h : k ≤ p.length + r.length) : ((trl p r).take k).filter (fun t => !decide (t ∈ o)) = [] ↔ ∀ j, j < k → wk p r j ∈ o := by
  rw [List.filter_eq_nil_iff]
  constructor
  · exact fun h1 j hj => dec_of (h1 _ ((trl_take h).mpr ⟨j, hj, rfl⟩))
  · intro h1 t ht q
    obtain ⟨j, hj, e⟩ := (trl_take h).mp ht
    exact notdec q (by rw [← e]; exact h1 j hj)
/-! the same run, unrolled -/
theorem flat_len (l : Nat) (r : List Int) : ((List.replicate l r).flatten).length = l * r.length := by
  induction l with
  | zero => rw [List.replicate_zero, List.flatten_nil, Nat.zero_mul] <;> rfl
  | succ l ih => rw [List.replicate_succ, List.flatten_cons, List.length_append, ih, Nat.succ_mul, Nat.add_comm]
theorem flat_get (r : List Int) : ∀ (l j : Nat), j < l * r.length → ((List.replicate l r).flatten)[j]? = r[j % r.length]?
  | 0, j, h => by rw [Nat.zero_mul] at h; omega
  | l + 1, j, h => by
    rw [List.replicate_succ, List.flatten_cons]
    by_cases hj : j < r.length
    · rw [List.getElem?_append_left hj, Nat.mod_eq_of_lt hj]
    · rw [Nat.succ_mul] at h
      rw [List.getElem?_append_right (by omega), flat_get r l (j - r.length) (by omega), ← Nat.mod_eq_sub_mod (by omega)]
theorem rot_get {r : List Int} {t j : Nat} (ht : t < r.length) (hj : j < r.length) : (r.drop t ++ r.take t)[j]? = r[(t + j) % r.length]? := by
  by_cases h : j < r.length - t
  · rw [List.getElem?_append_left (by rw [List.length_drop]; exact h), List.getElem?_drop, Nat.mod_eq_of_lt (by omega)]
  · rw [List.getElem?_append_right (by rw [List.length_drop]; omega), List.length_drop, List.getElem?_take_of_lt (by omega), Nat.mod_eq_sub_mod (by omega), Nat.mod_eq_of_lt (by omega)]
    congr 1
    omega
theorem unP_len {m : Nat} (hr : r ≠ []) : (unP p r m).length = p.length + m := by
  have h0 : 0 < r.length := List.length_pos_iff.mpr hr
  have h1 : m < (m / r.length + 1) * r.length := by
    rw [Nat.succ_mul]
    exact Nat.lt_div_mul_add h0
  unfold unP
  rw [List.length_append, List.length_take, flat_len, Nat.min_eq_left (Nat.le_of_lt h1)]
theorem unR_len {l m : Nat} (hr : r ≠ []) : (unR r m l).length = l * r.length := by
  have h0 : 0 < r.length := List.length_pos_iff.mpr hr
  have := Nat.mod_lt m h0
  unfold unR
  rw [flat_len, List.length_append, List.length_take, List.length_drop]
  congr 1
  omega
theorem unR_ne {l m : Nat} (hr : r ≠ []) (hl : 1 ≤ l) : unR r m l ≠ [] := by
  have h0 : 0 < r.length := List.length_pos_iff.mpr hr
  intro e
  have h1 := congrArg List.length e
  rw [unR_len hr] at h1
  have : 1 * 1 ≤ l * r.length := Nat.mul_le_mul hl h0
  rw [h1] at this
  exact absurd this (by decide)
theorem wk_unrolled {l m : Nat} (hr : r ≠ []) (hl : 1 ≤ l) : wk (unP p r m) (unR r m l) = wk p r := by
  have h0 : 0 < r.length := List.length_pos_iff.mpr hr
  funext k
  unfold wk
  rw [unP_len hr, unR_len hr, List.getD_eq_getElem?_getD, List.getD_eq_getElem?_getD, List.getD_eq_getElem?_getD, List.getD_eq_getElem?_getD]
  by_cases h1 : k < p.length
  · rw [if_pos (by omega), if_pos h1]
    unfold unP
    rw [List.getElem?_append_left h1]
  · rw [if_neg h1]
    by_cases h2 : k < p.length + m
    · rw [if_pos h2]
      unfold unP
      rw [List.getElem?_append_right (by omega), List.getElem?_take_of_lt (by omega), flat_get]
      rw [Nat.succ_mul]
      have := Nat.lt_div_mul_add (a := m) h0
      omega
    · rw [if_neg h2]
      have ht := Nat.mod_lt m h0
      have ll : (r.drop (m % r.length) ++ r.take (m % r.length)).length = r.length := by
        rw [List.length_append, List.length_take, List.length_drop]
        omega
      have h3 : 0 < l * r.length := Nat.mul_pos hl h0
      unfold unR
      rw [flat_get _ _ _ (by rw [ll]; exact Nat.mod_lt _ h3), ll, Nat.mod_mod_of_dvd _ (Nat.dvd_mul_left _ _), rot_get ht (Nat.mod_lt _ h0), ← Nat.add_mod]
      congr 3
      omega
end

/-! ### the law's own forms, the law -/
abbrev s_law_form : Stmt := topS 12
theorem sc_law_form : FnScope ["_law_form_here", "_law_run", "_law_total", "_law_trail", "_law_k", "_law_one"] ["_law_form_here", "_law_run"] (defScope s_law_form) := ⟨rfl, rfl, rfl, by decide +kernel, rfl, by decide +kernel, by decide +kernel⟩
abbrev slaw : Stmt := topS 13
theorem sclaw : FnScope ["_law_script", "_law_pool_here", "_law_choice", "_law_numbers", "_law_run", "_law_one", "_law_other", "_law_again", "_law_form_here", "_law_due", "_law_k"] ["_law_script"] (defScope slaw) := ⟨rfl, rfl, rfl, by decide +kernel, rfl, by decide +kernel, by decide +kernel⟩
section
variable {P : Program} {w : World} {K : PySem.W.Frag} {mg : Str → Option Value} {base : Heap}
theorem dpx_ints {H : Hp} : ∀ ns : List Int, DpAll K H (ns.map V.int) (ns.map PyData.int)
  | [] => .nil
  | x :: r => .cons (.int x) (dpx_ints r)
theorem dpx {H : Hp} {a : Addr} {ns : List Int} (h : SqL K H a (ns.map V.int)) : Dp K H (.ref a) (.list (ns.map PyData.int)) := .lst h (dpx_ints ns)
theorem layx : ∀ ns : List Int, PyData.canLayAll0 (ns.map PyData.int) = true
  | [] => rfl
  | x :: r => by
    show (PyData.canLay0 (.int x) && PyData.canLayAll0 (r.map PyData.int)) = true
    rw [layx r]
    rfl
theorem depx : ∀ ns : List Int, PyData.depthAll (ns.map PyData.int) = 0
  | [] => rfl
  | x :: r => by
    show max (PyData.depth (.int x)) (PyData.depthAll (r.map PyData.int)) = 0
    rw [depx r]
    rfl
theorem shapex (ns : List Int) : SeqAt.shaped (.list (ns.map PyData.int)) = true := by
  unfold SeqAt.shaped
  rw [show PyData.canLay0 (.list (ns.map PyData.int)) = true from layx ns, show PyData.depth (.list (ns.map PyData.int)) = 0 + 1 by rw [← depx ns] <;> rfl]
  rfl
theorem eqv_nil (ns : List Int) : PyData.eqv (.list (ns.map PyData.int)) (.list (([] : List Int).map PyData.int)) = decide (ns = []) := by
  cases ns with
  | nil => rfl
  | cons x r => rfl
theorem filter_snoc (q : Int → Bool) {l : List Int} {i : Nat} {z : Int} (h : l[i]? = some z) : (l.take (i + 1)).filter q = if q z = true then (l.take i).filter q ++ [z] else (l.take i).filter q := by
  rw [List.take_succ, h, List.filter_append]
  show _ ++ [z].filter q = _
  by_cases e : q z = true
  · rw [if_pos e, List.filter_cons, if_pos e]
    rfl
  · rw [if_neg e, List.filter_cons, if_neg e]
    exact List.append_nil _
def spForm (K : PySem.W.Frag) : Sp := fun vs H Q _ => ∃ (f a : Addr) (φ : Form) (p r : List Int), vs = [.ref f, .ref a] ∧ FormAt K H f φ ∧ RunAt K H a p r ∧ r ≠ [] ∧ p.length + r.length ≤ 1000 ∧
  ∀ (H' : Hp) (b : Bool), Same H H' → (b = true ↔ φ.holds (wk p r)) → Q (.bl b) H'
theorem ok_form {f : Addr} {fd : FuncData} (F : Fun K "_law_form" "_law_form" s_law_form f fd) (T : Bi mg) (c_law_at : Cal P w K mg base 1 "_law_at" ["_law_run", "_law_place"] (spLAt K)) : FnOk P w K mg base CX0 2 f fd ["_law_form_here", "_law_run"] (spForm K) := by
  refine F.ok sc_law_form (fun vs H Q E h => ?_) (fun cdv A outer s H vs Q E hr h => ?_)
  · obtain ⟨f, a, φ, p, r, rfl, _⟩ := h
    rfl
  · obtain ⟨f, a, φ, p, r, rfl, M, R, hne, hl, q⟩ := h
    obtain ⟨oa, bs, h1, h2, h3⟩ := M.ex
    obtain ⟨pa, ra, r1, r2, r3⟩ := R.ex
    have hr0 : 0 < r.length := List.length_pos_iff.mpr hne
    refine ⟨_, (pss_cons (ps_set (i := 2) sc_law_form.nd rfl (.inl rfl) (pe_op op_add (pe_callB call_len_seq (by rfl) T.len PySem.boot_len (pa_cons (pe_ix ix_tup (pv 1) pe_int (fun _ _ => rfl)) pa_nil)) (pe_callB call_len_seq (by rfl) T.len PySem.boot_len (pa_cons (pe_ix ix_tup (pv 1) pe_int (fun _ _ => rfl)) pa_nil))))
      (pss_cons (ps_setLc (i := 3) (own := [("_law_k", 4)]) (g := gName 4) (by rfl) sc_law_form.nd rfl rfl (sw_true rfl rfl rfl (by decide +kernel)) (pi_range1 (by rfl) T.range (pa_cons (pe_op op_add (pv 2) pe_int) pa_nil)) (blkOk_by (own := [("_law_k", 4)]) (N := ["_law_form_here", "_law_run", "_law_total", "_law_trail", "_law_k", "_law_one"]) (sc := defScope s_law_form) (by decide +kernel)) (fun _ _ _ _ _ => (pg_name (i := 4) sc_law_form.nd rfl (.inl rfl))) (fun _ _ _ _ _ => pts_nil) (fun _ _ _ _ _ => (pe_call c_law_at.G hr (by rfl) c_law_at.g c_law_at.kp c_law_at.b .nil pass0 (pa_cons (pv 1) (pa_cons (pv 4) pa_nil)))))
      (pss_cons (ps_if (pt_cmpR op_eq (pe_ix ix_tup (pv 0) pe_int (fun _ _ => rfl)) pe_str (nomark _))
        (pss_one (ps_ret (pe_cmpR op_in_seq (pe_ix ix_list (pv 3) pe_int (fun _ _ => rfl)) (pe_ix ix_tup (pv 0) pe_int (fun _ _ => rfl)) (by rfl))))
        pss_nil)
      (pss_cons (ps_if (pt_cmpR op_eq (pe_ix ix_tup (pv 0) pe_int (fun _ _ => rfl)) pe_str (nomark _))
        (pss_one (ps_ret (pe_cmpR (op_neD hr.units) (pe_lc (own := [("_law_one", 5)]) (g := gName 5) rfl sc_law_form.nd (pi_list (pv 3)) (blkOk_by (own := [("_law_one", 5)]) (N := ["_law_form_here", "_law_run", "_law_total", "_law_trail", "_law_k", "_law_one"]) (sc := defScope s_law_form) (by decide +kernel)) (fun _ _ _ _ _ => (pg_name (i := 5) sc_law_form.nd rfl (.inl rfl))) (fun _ _ _ _ _ => (pts_one (pt_cmpR (inS K) (pv 5) (pe_ix (ixT K) (pv 0) pe_int (fun _ _ => rfl)) (by rfl)))) (fun _ _ _ _ _ => (pv 5))) (pe_lst pa_nil) (nomark _))))
        pss_nil)
      (pss_cons (ps_if (pt_cmpR op_ne (pe_ix ix_tup (pv 0) pe_int (fun _ _ => rfl)) pe_str (nomark _))
        (pss_one (ps_for PassesOwn.never rfl (pi_range1 (by rfl) T.range (pa_cons (pv 2) pa_nil)) (pg_name (i := 4) sc_law_form.nd rfl (.inl rfl))
          (pss_one (ps_if (PW.pt (pw_and (pt_cmpR op_in_seq (pe_ix ix_list (pv 3) (pv 4) (fun _ _ => rfl)) (pe_ix ix_tup (pv 0) pe_int (fun _ _ => rfl)) (by rfl)) (pw_and1 (pt_cmpR (op_eqD hr.units) (pe_lc (own := [("_law_one", 5)]) (g := gName 5) rfl sc_law_form.nd (pi_list (pe_slice sl_list (pv 3) po_none (po_some (pv 4)))) (blkOk_by (own := [("_law_one", 5)]) (N := ["_law_form_here", "_law_run", "_law_total", "_law_trail", "_law_k", "_law_one"]) (sc := defScope s_law_form) (by decide +kernel)) (fun _ _ _ _ _ => (pg_name (i := 5) sc_law_form.nd rfl (.inl rfl))) (fun _ _ _ _ _ => (pts_one (pt_cmpR (ninS K) (pv 5) (pe_ix (ixT K) (pv 0) pe_int (fun _ _ => rfl)) (by rfl)))) (fun _ _ _ _ _ => (pv 5))) (pe_lst pa_nil) (nomark _)))))
            (pss_one (ps_ret pe_bl))
            pss_nil))))
        pss_nil)
      (pss_one (ps_ret (pe_and (pe_cmpR op_ne (pe_ix ix_tup (pv 0) pe_int (fun _ _ => rfl)) pe_str (nomark _)) (pe_one (pe_cmpR (op_eqD hr.units) (pe_lc (own := [("_law_one", 5)]) (g := gName 5) rfl sc_law_form.nd (pi_list (pv 3)) (blkOk_by (own := [("_law_one", 5)]) (N := ["_law_form_here", "_law_run", "_law_total", "_law_trail", "_law_k", "_law_one"]) (sc := defScope s_law_form) (by decide +kernel)) (fun _ _ _ _ _ => (pg_name (i := 5) sc_law_form.nd rfl (.inl rfl))) (fun _ _ _ _ _ => (pts_one (pt_cmpR (ninS K) (pv 5) (pe_ix (ixT K) (pv 0) pe_int (fun _ _ => rfl)) (by rfl)))) (fun _ _ _ _ _ => (pv 5))) (pe_lst pa_nil) (nomark _))))))))))), ?_⟩
    refine ⟨_, rfl, a, _, 0, .ref pa, rfl, rfl, r1, at_of (j := 0) rfl rfl, pa, _, rfl, .inr r2, _, rfl, a, _, 1, .ref ra, rfl, rfl, r1, at_of (j := 1) rfl rfl, ra, _, rfl, .inr r3, _, _, rfl, rfl, ?_⟩
    refine ⟨_, rfl, _, _, rfl, rfl, _, rfl, by rw [List.length_map, List.length_map]; omega, by rw [List.length_map, List.length_map]; omega, fun D hD => ?_⟩
    rw [List.length_map, List.length_map, show (((p.length : Int) + (r.length : Int)) + 1).toNat = p.length + r.length + 1 by omega]
    refine lc_rangeS (fun i acc => acc = ((List.range i).map (wk p r)).map V.int) hD (by omega) rfl (fun _ => rfl) ?_ ?_
    · rintro i H1 acc hi s1 rfl _ N1 N2 k1 k2
      refine iteT (B := False) ⟨_, rfl, _, rfl, a, p, r, i, by rw [Int.zero_add] <;> rfl, R.imm (simm s1), hne, k1 _ _ (Same.refl _) ?_⟩
      rw [List.range_succ, List.map_append, List.map_append]
      rfl
    rintro H0 acc s0 hT _ rfl
    have hT' : H0 D = some (.lst ((trl p r).map V.int)) := hT
    have o0 := ssqt s0 h2
    have f0 := ssqt s0 h1
    clear hT
    cases φ with
    | next o =>
      refine ⟨_, rfl, f, _, 0, .str _, rfl, rfl, f0, at_of (j := 0) rfl rfl, rfl, _, rfl, ?_⟩
      rw [dec_str, decide_eq_true (show Form.word (.next o) = Str.ofString "next" from rfl)]
      refine iteT ⟨_, rfl, D, _, 1, .int (wk p r 1), rfl, rfl, SqL.of hT', at_of (j := 1) rfl (get_map (trl_get (by omega))), _, rfl, f, _, 1, .ref oa, rfl, rfl, f0, at_of (j := 1) rfl rfl, oa, _, rfl, .inr o0, rfl, flat_int _, ?_⟩
      show Q (.bl (inV (.int (wk p r 1)) (List.map V.int o))) H0
      rw [inV_int]
      exact q H0 _ s0 decide_eq_true_iff
    | once o =>
      refine ⟨_, rfl, f, _, 0, .str _, rfl, rfl, f0, at_of (j := 0) rfl rfl, rfl, _, rfl, ?_⟩
      rw [dec_str, decide_eq_false (show ¬ Form.word (.once o) = Str.ofString "next" from (by decide +kernel : ¬ Str.ofString "once" = Str.ofString "next"))]
      refine iteF ⟨_, rfl, f, _, 0, .str _, rfl, rfl, f0, at_of (j := 0) rfl rfl, rfl, _, rfl, ?_⟩
      rw [dec_str, decide_eq_true (show Form.word (.once o) = Str.ofString "once" from rfl)]
      refine iteT ⟨_, rfl, D, rfl, ⟨_, SqL.of hT'⟩, fun D2 hD2 => lc_listS (K := K) (a := D) (xs := (trl p r).map V.int) (fun i acc => acc = (((trl p r).take i).filter fun t => decide (t ∈ o)).map V.int) (SqL.of hT') hD2 (by rw [List.length_map]; unfold trl; rw [List.length_map, List.length_range]; omega) rfl (fun _ => rfl) ?_ ?_⟩
      · intro i x H2 acc hx s2 hacc _ N1 N2 k1 k2
        obtain ⟨z, hz, rfl⟩ := map_get hx
        refine ⟨_, rfl, _, rfl, f, _, 1, .ref oa, rfl, rfl, ssqt s2 f0, at_of (j := 1) rfl rfl, oa, _, rfl, .inr (ssqt s2 o0), rfl, flat_int _, _, rfl, ?_⟩
        rw [inV_int]
        refine ite2 (fun e => ⟨_, rfl, k1 _ _ (Same.refl _) ?_⟩) (fun e => k2 _ (Same.refl _) ?_)
        · rw [filter_snoc _ hz, if_pos (show decide (z ∈ o) = true from e), List.map_append, hacc]
          rfl
        · rw [filter_snoc _ hz, if_neg (show ¬ decide (z ∈ o) = true from e), hacc]
      · intro H2 acc s2 hD2' _ hacc
        rw [List.length_map, List.take_of_length_le (Nat.le_refl _)] at hacc
        subst hacc
        refine ⟨by show 0 ≤ sizeLine; decide, fun t ht => ⟨_, _, dpx (SqL.of (same_upd ht _ _ hD2')), dpx (ns := []) (SqL.of upd_same), shapex _, shapex _, ?_⟩⟩
        rw [eqv_nil]
        refine q _ _ ((s0.trans s2).trans (same_upd ht)) ?_
        rw [Form.holds, ← trl_some hne]
        simp
    | ever o =>
      refine ⟨_, rfl, f, _, 0, .str _, rfl, rfl, f0, at_of (j := 0) rfl rfl, rfl, _, rfl, ?_⟩
      rw [dec_str, decide_eq_false (show ¬ Form.word (.ever o) = Str.ofString "next" from (by decide +kernel : ¬ Str.ofString "ever" = Str.ofString "next"))]
      refine iteF ⟨_, rfl, f, _, 0, .str _, rfl, rfl, f0, at_of (j := 0) rfl rfl, rfl, _, rfl, ?_⟩
      rw [dec_str, decide_eq_false (show ¬ Form.word (.ever o) = Str.ofString "once" from (by decide +kernel : ¬ Str.ofString "ever" = Str.ofString "once"))]
      refine iteF ⟨_, rfl, f, _, 0, .str _, rfl, rfl, f0, at_of (j := 0) rfl rfl, rfl, _, rfl, ?_⟩
      rw [dec_str, decide_eq_true (show Form.word (.ever o) = Str.ofString "ever" from rfl)]
      refine iteF ⟨_, rfl, f, _, 0, .str _, rfl, rfl, f0, at_of (j := 0) rfl rfl, rfl, true, ?_, iteT ?_⟩
      · rw [dec_str, decide_eq_false (show ¬ Form.word (.ever o) = Str.ofString "until" from (by decide +kernel : ¬ Str.ofString "ever" = Str.ofString "until"))]
        rfl
      refine ⟨_, rfl, D, rfl, ⟨_, SqL.of hT'⟩, fun D2 hD2 => lc_listS (K := K) (a := D) (xs := (trl p r).map V.int) (fun i acc => acc = (((trl p r).take i).filter fun t => !decide (t ∈ o)).map V.int) (SqL.of hT') hD2 (by rw [List.length_map]; unfold trl; rw [List.length_map, List.length_range]; omega) rfl (fun _ => rfl) ?_ ?_⟩
      · intro i x H2 acc hx s2 hacc _ N1 N2 k1 k2
        obtain ⟨z, hz, rfl⟩ := map_get hx
        refine ⟨_, rfl, _, rfl, f, _, 1, .ref oa, rfl, rfl, ssqt s2 f0, at_of (j := 1) rfl rfl, oa, _, rfl, .inr (ssqt s2 o0), rfl, flat_int _, _, rfl, ?_⟩
        rw [inV_int]
        refine ite2 (fun e => ⟨_, rfl, k1 _ _ (Same.refl _) ?_⟩) (fun e => k2 _ (Same.refl _) ?_)
        · rw [filter_snoc _ hz, if_pos (show (!decide (z ∈ o)) = true from e), List.map_append, hacc]
          rfl
        · rw [filter_snoc _ hz, if_neg (show ¬ (!decide (z ∈ o)) = true from e), hacc]
      · intro H2 acc s2 hD2' _ hacc
        rw [List.length_map, List.take_of_length_le (Nat.le_refl _)] at hacc
        subst hacc
        refine ⟨by show 0 ≤ sizeLine; decide, fun t ht => ⟨_, _, dpx (SqL.of (same_upd ht _ _ hD2')), dpx (ns := []) (SqL.of upd_same), shapex _, shapex _, ?_⟩⟩
        rw [eqv_nil]
        refine q _ _ ((s0.trans s2).trans (same_upd ht)) ?_
        rw [Form.holds, ← trl_all hne, decide_eq_true_iff]
    | til o u =>
      obtain ⟨ob, hob, rfl⟩ : ∃ ob, SqT K H ob (u.map V.int) ∧ bs = [ob] := by
        cases h3 with
        | cons x y =>
          cases y
          exact ⟨_, x, rfl⟩
      have u0 := ssqt s0 hob
      refine ⟨_, rfl, f, _, 0, .str _, rfl, rfl, f0, at_of (j := 0) rfl rfl, rfl, _, rfl, ?_⟩
      rw [dec_str, decide_eq_false (show ¬ Form.word (.til o u) = Str.ofString "next" from (by decide +kernel : ¬ Str.ofString "until" = Str.ofString "next"))]
      refine iteF ⟨_, rfl, f, _, 0, .str _, rfl, rfl, f0, at_of (j := 0) rfl rfl, rfl, _, rfl, ?_⟩
      rw [dec_str, decide_eq_false (show ¬ Form.word (.til o u) = Str.ofString "once" from (by decide +kernel : ¬ Str.ofString "until" = Str.ofString "once"))]
      refine iteF ⟨_, rfl, f, _, 0, .str _, rfl, rfl, f0, at_of (j := 0) rfl rfl, rfl, _, rfl, ?_⟩
      rw [dec_str, decide_eq_false (show ¬ Form.word (.til o u) = Str.ofString "ever" from (by decide +kernel : ¬ Str.ofString "until" = Str.ofString "ever"))]
      refine iteT ⟨_, rfl, _, rfl, by omega, by omega, ?_⟩
      rw [show ((p.length : Int) + (r.length : Int)).toNat = p.length + r.length by omega]
      refine for_range (fun i σ H' => ∃ y : Option V, σ = [some (.ref f), some (.ref a), some (.int ((p.length : Int) + (r.length : Int))), some (.ref D), y, none] ∧ Same H0 H' ∧ ∀ k, k < i → ¬ (wk p r k ∈ u ∧ ∀ j, j < k → wk p r j ∈ o)) ⟨none, rfl, Same.refl _, fun k hk => absurd hk (Nat.not_lt_zero k)⟩ ?_ ?_
      · rintro i σ H1 hi ⟨y, rfl, s1, no⟩
        rw [Int.zero_add]
        have hT1 := s1 _ _ hT'
        refine ⟨_, rfl, _, rfl, D, _, _, .int (wk p r i), rfl, rfl, SqL.of hT1, at_of (j := i) rfl (get_map (trl_get (by omega))), _, rfl, f, _, 2, .ref ob, rfl, rfl, ssqt s1 f0, at_of (j := 2) rfl rfl, ob, _, rfl, .inr (ssqt s1 u0), rfl, flat_int _, _, rfl, ?_⟩
        rw [inV_int]
        refine ite2 (fun e => ?_) (fun e => iteF ?_)
        · have e1 : wk p r i ∈ u := of_decide_eq_true e
          refine ⟨_, rfl, _, rfl, _, rfl, D, _, rfl, SqL.of hT1, fun c hc => ⟨c, rfl, ⟨_, SqL.of upd_same⟩, ?_⟩⟩
          have sc := same_upd (o := HO.lst (cutV ((trl p r).map V.int) none (some (i : Int)))) hc
          have hC : (L2.upd H1 c (.lst (cutV ((trl p r).map V.int) none (some (i : Int))))) c = some (.lst (((trl p r).take i).map V.int)) := by rw [upd_same, cut_to]
          generalize L2.upd H1 c (.lst (cutV ((trl p r).map V.int) none (some (i : Int)))) = H2 at sc hC ⊢
          refine fun D2 hD2 => lc_listS (K := K) (a := c) (xs := ((trl p r).take i).map V.int) (fun j acc => acc = ((((trl p r).take i).take j).filter fun t => !decide (t ∈ o)).map V.int) (SqL.of hC) hD2 (by rw [List.length_map, List.length_take]; omega) rfl (fun _ => rfl) ?_ ?_
          · intro j x H3 acc hx s3 hacc _ N1 N2 k1 k2
            obtain ⟨z, hz, rfl⟩ := map_get hx
            refine ⟨_, rfl, _, rfl, f, _, 1, .ref oa, rfl, rfl, ssqt ((s1.trans sc).trans s3) f0, at_of (j := 1) rfl rfl, oa, _, rfl, .inr (ssqt ((s1.trans sc).trans s3) o0), rfl, flat_int _, _, rfl, ?_⟩
            rw [inV_int]
            refine ite2 (fun e => ⟨_, rfl, k1 _ _ (Same.refl _) ?_⟩) (fun e => k2 _ (Same.refl _) ?_)
            · rw [filter_snoc _ hz, if_pos (show (!decide (z ∈ o)) = true from e), List.map_append, hacc]
              rfl
            · rw [filter_snoc _ hz, if_neg (show ¬ (!decide (z ∈ o)) = true from e), hacc]
          · intro H3 acc s3 hD3 _ hacc
            rw [List.length_map, List.take_of_length_le (Nat.le_refl _)] at hacc
            subst hacc
            refine ⟨by show 0 ≤ sizeLine; decide, fun t ht => ⟨_, _, dpx (SqL.of (same_upd ht _ _ hD3)), dpx (ns := []) (SqL.of upd_same), shapex _, shapex _, _, rfl, ?_⟩⟩
            rw [eqv_nil]
            have s4 := ((s1.trans sc).trans s3).trans (same_upd (o := HO.lst []) ht)
            refine ite2 (fun e => ?_) (fun e => ?_)
            · have e2 := (trl_ahead (p := p) (r := r) (by omega)).mp (of_decide_eq_true e)
              exact q _ true (s0.trans s4) ⟨fun _ => ⟨i, e1, e2⟩, fun _ => rfl⟩
            · refine ⟨_, rfl, s4, fun k hk => ?_⟩
              by_cases hki : k = i
              · subst hki
                exact fun h => e (decide_eq_true ((trl_ahead (p := p) (r := r) (by omega)).mpr h.2))
              · exact no k (by omega)
        · refine ⟨_, rfl, s1, fun k hk => ?_⟩
          by_cases hki : k = i
          · subst hki
            exact fun h => e (decide_eq_true h.1)
          · exact no k (by omega)
      · rintro σ H1 ⟨y, rfl, s1, no⟩
        have never : ¬ ∃ k, wk p r k ∈ u ∧ ∀ j, j < k → wk p r j ∈ o := by
          rw [til_fold hne]
          rintro ⟨k, hk, h⟩
          exact no k hk h
        refine ⟨_, rfl, f, _, 0, .str _, rfl, rfl, ssqt s1 f0, at_of (j := 0) rfl rfl, rfl, false, ?_, iteF ?_⟩
        · rw [dec_str, decide_eq_true (show Form.word (.til o u) = Str.ofString "until" from rfl)]
          rfl
        exact q _ false (s0.trans s1) ⟨fun h => absurd h Bool.false_ne_true, fun h => absurd h never⟩
    | unl o u =>
      obtain ⟨ob, hob, rfl⟩ : ∃ ob, SqT K H ob (u.map V.int) ∧ bs = [ob] := by
        cases h3 with
        | cons x y =>
          cases y
          exact ⟨_, x, rfl⟩
      have u0 := ssqt s0 hob
      refine ⟨_, rfl, f, _, 0, .str _, rfl, rfl, f0, at_of (j := 0) rfl rfl, rfl, _, rfl, ?_⟩
      rw [dec_str, decide_eq_false (show ¬ Form.word (.unl o u) = Str.ofString "next" from (by decide +kernel : ¬ Str.ofString "unless" = Str.ofString "next"))]
      refine iteF ⟨_, rfl, f, _, 0, .str _, rfl, rfl, f0, at_of (j := 0) rfl rfl, rfl, _, rfl, ?_⟩
      rw [dec_str, decide_eq_false (show ¬ Form.word (.unl o u) = Str.ofString "once" from (by decide +kernel : ¬ Str.ofString "unless" = Str.ofString "once"))]
      refine iteF ⟨_, rfl, f, _, 0, .str _, rfl, rfl, f0, at_of (j := 0) rfl rfl, rfl, _, rfl, ?_⟩
      rw [dec_str, decide_eq_false (show ¬ Form.word (.unl o u) = Str.ofString "ever" from (by decide +kernel : ¬ Str.ofString "unless" = Str.ofString "ever"))]
      refine iteT ⟨_, rfl, _, rfl, by omega, by omega, ?_⟩
      rw [show ((p.length : Int) + (r.length : Int)).toNat = p.length + r.length by omega]
      refine for_range (fun i σ H' => ∃ y : Option V, σ = [some (.ref f), some (.ref a), some (.int ((p.length : Int) + (r.length : Int))), some (.ref D), y, none] ∧ Same H0 H' ∧ ∀ k, k < i → ¬ (wk p r k ∈ u ∧ ∀ j, j < k → wk p r j ∈ o)) ⟨none, rfl, Same.refl _, fun k hk => absurd hk (Nat.not_lt_zero k)⟩ ?_ ?_
      · rintro i σ H1 hi ⟨y, rfl, s1, no⟩
        rw [Int.zero_add]
        have hT1 := s1 _ _ hT'
        refine ⟨_, rfl, _, rfl, D, _, _, .int (wk p r i), rfl, rfl, SqL.of hT1, at_of (j := i) rfl (get_map (trl_get (by omega))), _, rfl, f, _, 2, .ref ob, rfl, rfl, ssqt s1 f0, at_of (j := 2) rfl rfl, ob, _, rfl, .inr (ssqt s1 u0), rfl, flat_int _, _, rfl, ?_⟩
        rw [inV_int]
        refine ite2 (fun e => ?_) (fun e => iteF ?_)
        · have e1 : wk p r i ∈ u := of_decide_eq_true e
          refine ⟨_, rfl, _, rfl, _, rfl, D, _, rfl, SqL.of hT1, fun c hc => ⟨c, rfl, ⟨_, SqL.of upd_same⟩, ?_⟩⟩
          have sc := same_upd (o := HO.lst (cutV ((trl p r).map V.int) none (some (i : Int)))) hc
          have hC : (L2.upd H1 c (.lst (cutV ((trl p r).map V.int) none (some (i : Int))))) c = some (.lst (((trl p r).take i).map V.int)) := by rw [upd_same, cut_to]
          generalize L2.upd H1 c (.lst (cutV ((trl p r).map V.int) none (some (i : Int)))) = H2 at sc hC ⊢
          refine fun D2 hD2 => lc_listS (K := K) (a := c) (xs := ((trl p r).take i).map V.int) (fun j acc => acc = ((((trl p r).take i).take j).filter fun t => !decide (t ∈ o)).map V.int) (SqL.of hC) hD2 (by rw [List.length_map, List.length_take]; omega) rfl (fun _ => rfl) ?_ ?_
          · intro j x H3 acc hx s3 hacc _ N1 N2 k1 k2
            obtain ⟨z, hz, rfl⟩ := map_get hx
            refine ⟨_, rfl, _, rfl, f, _, 1, .ref oa, rfl, rfl, ssqt ((s1.trans sc).trans s3) f0, at_of (j := 1) rfl rfl, oa, _, rfl, .inr (ssqt ((s1.trans sc).trans s3) o0), rfl, flat_int _, _, rfl, ?_⟩
            rw [inV_int]
            refine ite2 (fun e => ⟨_, rfl, k1 _ _ (Same.refl _) ?_⟩) (fun e => k2 _ (Same.refl _) ?_)
            · rw [filter_snoc _ hz, if_pos (show (!decide (z ∈ o)) = true from e), List.map_append, hacc]
              rfl
            · rw [filter_snoc _ hz, if_neg (show ¬ (!decide (z ∈ o)) = true from e), hacc]
          · intro H3 acc s3 hD3 _ hacc
            rw [List.length_map, List.take_of_length_le (Nat.le_refl _)] at hacc
            subst hacc
            refine ⟨by show 0 ≤ sizeLine; decide, fun t ht => ⟨_, _, dpx (SqL.of (same_upd ht _ _ hD3)), dpx (ns := []) (SqL.of upd_same), shapex _, shapex _, _, rfl, ?_⟩⟩
            rw [eqv_nil]
            have s4 := ((s1.trans sc).trans s3).trans (same_upd (o := HO.lst []) ht)
            refine ite2 (fun e => ?_) (fun e => ?_)
            · have e2 := (trl_ahead (p := p) (r := r) (by omega)).mp (of_decide_eq_true e)
              exact q _ true (s0.trans s4) ⟨fun _ => .inl ⟨i, e1, e2⟩, fun _ => rfl⟩
            · refine ⟨_, rfl, s4, fun k hk => ?_⟩
              by_cases hki : k = i
              · subst hki
                exact fun h => e (decide_eq_true ((trl_ahead (p := p) (r := r) (by omega)).mpr h.2))
              · exact no k (by omega)
        · refine ⟨_, rfl, s1, fun k hk => ?_⟩
          by_cases hki : k = i
          · subst hki
            exact fun h => e (decide_eq_true h.1)
          · exact no k (by omega)
      · rintro σ H1 ⟨y, rfl, s1, no⟩
        have never : ¬ ∃ k, wk p r k ∈ u ∧ ∀ j, j < k → wk p r j ∈ o := by
          rw [til_fold hne]
          rintro ⟨k, hk, h⟩
          exact no k hk h
        refine ⟨_, rfl, f, _, 0, .str _, rfl, rfl, ssqt s1 f0, at_of (j := 0) rfl rfl, rfl, true, ?_, iteT ?_⟩
        · rw [dec_str, decide_eq_false (show ¬ Form.word (.unl o u) = Str.ofString "until" from (by decide +kernel : ¬ Str.ofString "unless" = Str.ofString "until"))]
          rfl
        have hT1 := s1 _ _ hT'
        refine ⟨_, rfl, D, rfl, ⟨_, SqL.of hT1⟩, fun D2 hD2 => lc_listS (K := K) (a := D) (xs := (trl p r).map V.int) (fun i acc => acc = (((trl p r).take i).filter fun t => !decide (t ∈ o)).map V.int) (SqL.of hT1) hD2 (by rw [List.length_map]; unfold trl; rw [List.length_map, List.length_range]; omega) rfl (fun _ => rfl) ?_ ?_⟩
        · intro i x H2 acc hx s2 hacc _ N1 N2 k1 k2
          obtain ⟨z, hz, rfl⟩ := map_get hx
          refine ⟨_, rfl, _, rfl, f, _, 1, .ref oa, rfl, rfl, ssqt (s1.trans s2) f0, at_of (j := 1) rfl rfl, oa, _, rfl, .inr (ssqt (s1.trans s2) o0), rfl, flat_int _, _, rfl, ?_⟩
          rw [inV_int]
          refine ite2 (fun e => ⟨_, rfl, k1 _ _ (Same.refl _) ?_⟩) (fun e => k2 _ (Same.refl _) ?_)
          · rw [filter_snoc _ hz, if_pos (show (!decide (z ∈ o)) = true from e), List.map_append, hacc]
            rfl
          · rw [filter_snoc _ hz, if_neg (show ¬ (!decide (z ∈ o)) = true from e), hacc]
        · intro H2 acc s2 hD2' _ hacc
          rw [List.length_map, List.take_of_length_le (Nat.le_refl _)] at hacc
          subst hacc
          refine ⟨by show 0 ≤ sizeLine; decide, fun t ht => ⟨_, _, dpx (SqL.of (same_upd ht _ _ hD2')), dpx (ns := []) (SqL.of upd_same), shapex _, shapex _, ?_⟩⟩
          rw [eqv_nil]
          refine q _ _ (((s0.trans s1).trans s2).trans (same_upd ht)) ?_
          rw [decide_eq_true_iff, trl_all hne]
          exact ⟨.inr, fun h => h.elim (fun h => absurd h never) id⟩
def spLaw (K : PySem.W.Frag) : Sp := fun vs H Q _ => ∃ (l : Addr) (ns : List Int), vs = [.ref l] ∧ SqL K H l (ns.map V.int) ∧ ns.length ≤ 63 ∧ ∀ H', Q (.bl true) H'
theorem ok_law {f : Addr} {fd : FuncData} (F : Fun K "law" "law" slaw f fd) (T : Bi mg) (c_law_pool : Cal P w K mg base 1 "_law_pool" ["_law_script"] (spPool K)) (c_law_draw : Cal P w K mg base 1 "_law_draw" ["_law_pool_here", "_law_many"] spDraw)
    (c_law_drawn_run : Cal P w K mg base 2 "_law_drawn_run" ["_law_pool_here", "_law_some", "_law_most", "_law_wide"] (spDrawnRun K)) (c_law_share : Cal P w K mg base 2 "_law_share" ["_law_pool_here"] (spShare K))
    (c_law_unrolled : Cal P w K mg base 1 "_law_unrolled" ["_law_run", "_law_laps", "_law_many"] (spUnrolled K)) (c_law_form : Cal P w K mg base 2 "_law_form" ["_law_form_here", "_law_run"] (spForm K))
    (c_law_truth : Cal P w K mg base 1 "_law_truth" ["_law_found", "_law_due"] spTruth) (cholds_on : Cal P w K mg base 2 "holds_on" ["form", "run"] (spHolds K)) : FnOk P w K mg base CX0 3 f fd ["_law_script"] (spLaw K) := by
  refine F.ok sclaw (fun vs H Q E h => ?_) (fun cdv A outer s H vs Q E hr h => ?_)
  · obtain ⟨l, ns, rfl, _⟩ := h
    rfl
  · obtain ⟨l, ns, rfl, hS, hlen, q⟩ := h
    refine ⟨_, (pss_cons (ps_set (i := 1) sclaw.nd rfl (.inr rfl) (pe_call c_law_pool.G (hr.mono (by decide)) (by rfl) c_law_pool.g c_law_pool.kp c_law_pool.b .nil pass0 (pa_cons (pv 0) pa_nil)))
      (pss_cons (ps_set (i := 2) sclaw.nd rfl (.inl rfl) (pe_call c_law_draw.G (hr.mono (by decide)) (by rfl) c_law_draw.g c_law_draw.kp c_law_draw.b .nil pass0 (pa_cons (pv 1) (pa_cons pe_int pa_nil))))
      (pss_cons (ps_setLc (i := 3) (own := [("_law_k", 10)]) (g := gName 10) (by rfl) sclaw.nd rfl rfl (sw_true rfl rfl rfl (by decide +kernel)) (pi_range1 (by rfl) T.range (pa_cons (pe_op op_add pe_int (pe_call c_law_draw.G (hr.mono (by decide)) (by rfl) c_law_draw.g c_law_draw.kp c_law_draw.b .nil pass0 (pa_cons (pv 1) (pa_cons pe_int pa_nil)))) pa_nil)) (blkOk_by (own := [("_law_k", 10)]) (N := ["_law_script", "_law_pool_here", "_law_choice", "_law_numbers", "_law_run", "_law_one", "_law_other", "_law_again", "_law_form_here", "_law_due", "_law_k"]) (sc := defScope slaw) (by decide +kernel)) (fun _ _ _ _ _ => (pg_name (i := 10) sclaw.nd rfl (.inl rfl))) (fun _ _ _ _ _ => pts_nil) (fun _ _ _ _ _ => (pe_call c_law_draw.G (hr.mono (by decide)) (by rfl) c_law_draw.g c_law_draw.kp c_law_draw.b .nil pass0 (pa_cons (pv 1) (pa_cons pe_int pa_nil)))))
      (pss_cons (ps_set (i := 4) sclaw.nd rfl (.inl rfl) (pe_call c_law_drawn_run.G hr (by rfl) c_law_drawn_run.g c_law_drawn_run.kp c_law_drawn_run.b .nil pass0 (pa_cons (pv 1) (pa_cons (pv 3) (pa_cons pe_int (pa_cons pe_int pa_nil))))))
      (pss_cons (ps_set (i := 5) sclaw.nd rfl (.inl rfl) (pe_call c_law_share.G hr (by rfl) c_law_share.g c_law_share.kp c_law_share.b .nil pass0 (pa_cons (pv 1) pa_nil)))
      (pss_cons (ps_set (i := 6) sclaw.nd rfl (.inl rfl) (pe_call c_law_share.G hr (by rfl) c_law_share.g c_law_share.kp c_law_share.b .nil pass0 (pa_cons (pv 1) pa_nil)))
      (pss_cons (ps_set (i := 7) sclaw.nd rfl (.inl rfl) (pe_call c_law_unrolled.G (hr.mono (by decide)) (by rfl) c_law_unrolled.g c_law_unrolled.kp c_law_unrolled.b .nil pass0 (pa_cons (pv 4) (pa_cons (pe_op op_add pe_int (pe_call c_law_draw.G (hr.mono (by decide)) (by rfl) c_law_draw.g c_law_draw.kp c_law_draw.b .nil pass0 (pa_cons (pv 1) (pa_cons pe_int pa_nil)))) (pa_cons (pe_call c_law_draw.G (hr.mono (by decide)) (by rfl) c_law_draw.g c_law_draw.kp c_law_draw.b .nil pass0 (pa_cons (pv 1) (pa_cons pe_int pa_nil))) pa_nil)))))
      (Evl.pss_cut (ps_if (pt_cmpR op_eq (pv 2) pe_int (nomark _))
        (pss_one (ps_set (i := 7) sclaw.nd rfl (.inl rfl) (pe_call c_law_unrolled.G (hr.mono (by decide)) (by rfl) c_law_unrolled.g c_law_unrolled.kp c_law_unrolled.b .nil pass0 (pa_cons (pv 4) (pa_cons pe_int (pa_cons (pe_op op_sub (pe_op op_sub pe_int (pe_callB call_len_seq (by rfl) T.len PySem.boot_len (pa_cons (pe_ix ix_tup (pv 4) pe_int (fun _ _ => rfl)) pa_nil))) (pe_callB call_len_seq (by rfl) T.len PySem.boot_len (pa_cons (pe_ix ix_tup (pv 4) pe_int (fun _ _ => rfl)) pa_nil))) pa_nil))))))
        pss_nil)
      (pss_cons (ps_for PassesOwn.never rfl (pi_list (pe_lst (pa_cons (pe_tup (pa_cons pe_str (pa_cons (pv 5) pa_nil))) (pa_cons (pe_tup (pa_cons pe_str (pa_cons (pv 5) pa_nil))) (pa_cons (pe_tup (pa_cons pe_str (pa_cons (pv 5) pa_nil))) (pa_cons (pe_tup (pa_cons pe_str (pa_cons (pv 5) (pa_cons (pv 6) pa_nil)))) (pa_cons (pe_tup (pa_cons pe_str (pa_cons (pv 5) (pa_cons (pv 6) pa_nil)))) pa_nil))))))) (pg_name (i := 8) sclaw.nd rfl (.inl rfl))
        (pss_cons (ps_set (i := 9) sclaw.nd rfl (.inl rfl) (pe_call c_law_form.G hr (by rfl) c_law_form.g c_law_form.kp c_law_form.b .nil pass0 (pa_cons (pv 8) (pa_cons (pv 4) pa_nil))))
        (pss_one (ps_if (PW.pt (pw_or (pt_not (pt_val (pe_call c_law_truth.G (hr.mono (by decide)) (by rfl) c_law_truth.g c_law_truth.kp c_law_truth.b .nil pass0 (pa_cons (pe_call cholds_on.G hr (by rfl) cholds_on.g cholds_on.kp cholds_on.b .nil pass0 (pa_cons (pv 8) (pa_cons (pv 4) pa_nil))) (pa_cons (pv 9) pa_nil))))) (pw_or1 (pt_not (pt_val (pe_call c_law_truth.G (hr.mono (by decide)) (by rfl) c_law_truth.g c_law_truth.kp c_law_truth.b .nil pass0 (pa_cons (pe_call cholds_on.G hr (by rfl) cholds_on.g cholds_on.kp cholds_on.b .nil pass0 (pa_cons (pv 8) (pa_cons (pv 7) pa_nil))) (pa_cons (pv 9) pa_nil))))))))
          (pss_one (ps_ret pe_bl))
          pss_nil))))
      (pss_one (ps_ret pe_bl))))))))))), ?_⟩
    refine ⟨_, rfl, l, ns, rfl, hS, hlen, fun H1 PL s1 P1 => ?_⟩
    refine ⟨_, rfl, PL, 0, 6, rfl, P1, by decide, by decide, by decide, fun H2 ch c0 c1 P2 k2 => ?_⟩
    refine ⟨_, rfl, PL, _, 5, rfl, P2, by decide, by decide, by decide, fun H3 n n0 n1 P3 k3 => ⟨_, _, rfl, rfl, 1 + n, rfl, by omega, by omega, fun D hD =>
      lc_rangeP (a := PL) 1 (fun i acc => ∃ gs : List Int, acc = gs.map V.int ∧ gs.length = i) P3 hD (by omega) ⟨[], rfl, rfl⟩ (fun _ => rfl) ?_ ?_⟩⟩
    · rintro i H4 acc hi P4 K4 ⟨gs, rfl, hg⟩ _ N1 N2 kk1 kk2
      refine iteT (B := False) ⟨_, rfl, PL, _, 40, rfl, P4, by omega, by decide, by decide, fun H5 d d0 d1 P5 K5 => kk1 _ _ P5 K5 ⟨gs ++ [d], by rw [List.map_append]; rfl, by rw [List.length_append, hg]; rfl⟩⟩
    rintro H4 acc P4 K4 hD4 _ ⟨gs, rfl, hg⟩ oD
    have hgn : gs ≠ [] := fun e => by
      rw [e] at hg
      simp at hg
      omega
    refine ⟨_, rfl, _, rfl, PL, _, D, gs, 7, 5, rfl, P4, by omega, hD4, oD, hgn, by omega, by decide, by decide, by decide, by decide, fun H5 b p r hne lp lr R5 P5 K5 => ?_⟩
    refine ⟨_, rfl, PL, _, rfl, P5, by omega, fun H6 oa F1 hF1 P6 K6 => ?_⟩
    refine ⟨_, rfl, PL, _, rfl, P6, by omega, fun H7 ob F2 hF2 P7 K7 => ?_⟩
    refine ⟨_, rfl, _, rfl, PL, _, 3, rfl, P7, by omega, by decide, by decide, fun H8 x x0 x1 P8 K8 => ?_⟩
    obtain ⟨x, rfl⟩ : ∃ j : Nat, x = (j : Int) := ⟨x.toNat, by omega⟩
    refine ⟨_, _, rfl, rfl, _, rfl, PL, _, 9, rfl, P8, by omega, by decide, by decide, fun H9 y y0 y1 P9 K9 => ?_⟩
    obtain ⟨y, rfl⟩ : ∃ j : Nat, y = (j : Int) := ⟨y.toNat, by omega⟩
    have i69 := ((P6.imm K7).trans (P7.imm K8)).trans (P8.imm K9)
    have R9 := R5.imm ((P5.imm K6).trans i69)
    have a9 := i69.sq hF1
    have b9 := ((P7.imm K8).trans (P8.imm K9)).sq hF2
    have hr0 : 0 < r.length := List.length_pos_iff.mpr hne
    refine ⟨b, p, r, 1 + x, y, rfl, R9, hne, by omega, by omega, by omega, by omega, by omega, fun H10 b2 s10 R10 => ?_⟩
    refine ⟨fun σ H' => ∃ (b2 : Addr) (p' r' : List Int), σ = [some (.ref l), some (.ref PL.p), some (.int ch), some (.ref D), some (.ref b), some (.ref oa), some (.ref ob), some (.ref b2), none, none, none] ∧ Same H9 H' ∧ RunAt K H' b2 p' r' ∧ r' ≠ [] ∧ p'.length + r'.length ≤ 1000 ∧ wk p' r' = wk p r, ?_, ?_⟩
    · refine ⟨_, rfl, rfl, _, rfl, ite2 (fun e => ?_) (fun e => ?_)⟩
      · obtain ⟨pa, ra, h1, h2, h3⟩ := (R9.imm (simm s10)).ex
        refine ⟨_, rfl, _, rfl, b, _, 0, .ref pa, rfl, rfl, h1, at_of (j := 0) rfl rfl, pa, _, rfl, .inr h2, _, _, rfl, rfl, _, rfl, b, _, 1, .ref ra, rfl, rfl, h1, at_of (j := 1) rfl rfl, ra, _, rfl, .inr h3, _, _, rfl, rfl, b, p, r, 1, 400 - p.length - r.length, ?_, R9.imm (simm s10), hne, by omega, by omega, by omega, by omega, by omega, fun H11 b3 s11 R11 => ?_⟩
        · rw [List.length_map, List.length_map, show ((400 - p.length - r.length : Nat) : Int) = 400 - (p.length : Int) - (r.length : Int) by omega]
          rfl
        · exact ⟨b3, _, _, rfl, s10.trans s11, R11, unR_ne hne (by omega), by rw [unP_len hne, unR_len hne]; omega, wk_unrolled hne (by omega)⟩
      · refine ⟨b2, _, _, rfl, s10, R10, unR_ne hne (by omega), ?_, wk_unrolled hne (by omega)⟩
        rw [unP_len hne, unR_len hne]
        have : (1 + x) * r.length ≤ 3 * 5 := Nat.mul_le_mul (by omega) lr
        omega
    rintro σ H11 ⟨b2, p', r', rfl, s11, R2, hne', hl', ew⟩
    have R1 := R9.imm (simm s11)
    have a11 := ssqt s11 a9
    have b11 := ssqt s11 b9
    refine ⟨_, rfl, by show 2 ≤ sizeLine; decide, fun t1 g1 => ⟨_, rfl, by show 2 ≤ sizeLine; decide, fun t2 g2 => ⟨_, rfl, by show 2 ≤ sizeLine; decide, fun t3 g3 => ⟨_, rfl, _, rfl, by show 3 ≤ sizeLine; decide, fun t4 g4 => ⟨_, rfl, _, rfl, by show 3 ≤ sizeLine; decide, fun t5 g5 => ⟨by show 5 ≤ sizeLine; decide, fun L gL => ?_⟩⟩⟩⟩⟩⟩
    have m1 := same_upd (o := .tup [.str "next", .ref oa]) g1
    have m2 := same_upd (o := .tup [.str "once", .ref oa]) g2
    have m3 := same_upd (o := .tup [.str "ever", .ref oa]) g3
    have m4 := same_upd (o := .tup [.str "until", .ref oa, .ref ob]) g4
    have m5 := same_upd (o := .tup [.str "unless", .ref oa, .ref ob]) g5
    have m6 := same_upd (o := .lst [.ref t1, .ref t2, .ref t3, .ref t4, .ref t5]) gL
    have m56 := m5.trans m6
    have m46 := m4.trans m56
    have m36 := m3.trans m46
    have m26 := m2.trans m36
    have m16 := m1.trans m26
    have f1 : SqT K _ t1 [.str "next", .ref oa] := ssqt m26 (SqT.of upd_same)
    have f2 : SqT K _ t2 [.str "once", .ref oa] := ssqt m36 (SqT.of upd_same)
    have f3 : SqT K _ t3 [.str "ever", .ref oa] := ssqt m46 (SqT.of upd_same)
    have f4 : SqT K _ t4 [.str "until", .ref oa, .ref ob] := ssqt m56 (SqT.of upd_same)
    have f5 : SqT K _ t5 [.str "unless", .ref oa, .ref ob] := ssqt m6 (SqT.of upd_same)
    have hL : (L2.upd (L2.upd (L2.upd (L2.upd (L2.upd (L2.upd H11 t1 (.tup [.str "next", .ref oa])) t2 (.tup [.str "once", .ref oa])) t3 (.tup [.str "ever", .ref oa])) t4 (.tup [.str "until", .ref oa, .ref ob])) t5 (.tup [.str "unless", .ref oa, .ref ob])) L (.lst [.ref t1, .ref t2, .ref t3, .ref t4, .ref t5])) L = some (.lst [.ref t1, .ref t2, .ref t3, .ref t4, .ref t5]) := upd_same
    generalize L2.upd (L2.upd (L2.upd (L2.upd (L2.upd (L2.upd H11 t1 (.tup [.str "next", .ref oa])) t2 (.tup [.str "once", .ref oa])) t3 (.tup [.str "ever", .ref oa])) t4 (.tup [.str "until", .ref oa, .ref ob])) t5 (.tup [.str "unless", .ref oa, .ref ob])) L (.lst [.ref t1, .ref t2, .ref t3, .ref t4, .ref t5]) = H12 at m16 f1 f2 f3 f4 f5 hL ⊢
    have a12 := ssqt m16 a11
    have b12 := ssqt m16 b11
    have key : ∀ (i : Nat) (z : V), [V.ref t1, V.ref t2, V.ref t3, V.ref t4, V.ref t5][i]? = some z → ∃ t φ, z = .ref t ∧ FormAt K H12 t φ := by
      intro i z hz
      match i, hz with
      | 0, hz => exact ⟨t1, .next F1, (Option.some.inj hz).symm, ⟨oa, [], f1, a12, .nil⟩⟩
      | 1, hz => exact ⟨t2, .once F1, (Option.some.inj hz).symm, ⟨oa, [], f2, a12, .nil⟩⟩
      | 2, hz => exact ⟨t3, .ever F1, (Option.some.inj hz).symm, ⟨oa, [], f3, a12, .nil⟩⟩
      | 3, hz => exact ⟨t4, .til F1 F2, (Option.some.inj hz).symm, ⟨oa, [ob], f4, a12, .cons b12 .nil⟩⟩
      | 4, hz => exact ⟨t5, .unl F1 F2, (Option.some.inj hz).symm, ⟨oa, [ob], f5, a12, .cons b12 .nil⟩⟩
      | i + 5, hz => exact nomatch hz
    refine ⟨L, rfl, ⟨_, SqL.of hL⟩, for_list (K := K) (a := L) (xs := [V.ref t1, V.ref t2, V.ref t3, V.ref t4, V.ref t5]) (fun i σ H' => ∃ y8 y9 : Option V, σ = [some (.ref l), some (.ref PL.p), some (.int ch), some (.ref D), some (.ref b), some (.ref oa), some (.ref ob), some (.ref b2), y8, y9, none] ∧ Same H12 H')
      ⟨none, none, rfl, Same.refl _⟩ (fun i σ H' _ ⟨_, _, _, s⟩ => SqL.of (s _ _ hL)) ?_ ?_⟩
    · rintro i z σ H13 hz ⟨y8, y9, rfl, s13⟩
      obtain ⟨t, φ, rfl, M⟩ := key i z hz
      refine ⟨_, rfl, _, rfl, t, b, φ, p, r, rfl, M.imm (simm s13), R1.imm (simm (m16.trans s13)), hne, by omega, fun H14 due s14 hd => ?_⟩
      refine ⟨_, rfl, _, rfl, t, b, φ, p, r, rfl, M.imm (simm (s13.trans s14)), R1.imm (simm ((m16.trans s13).trans s14)), hne, by omega, fun H15 s15 => ⟨_, rfl, _, _, rfl, _, rfl, iteNS ?_ ?_⟩⟩
      · exact Bool.eq_iff_iff.mpr ((on_holds hne φ).trans hd.symm)
      refine ⟨_, rfl, _, rfl, t, b2, φ, p', r', rfl, M.imm (simm ((s13.trans s14).trans s15)), R2.imm (simm (((m16.trans s13).trans s14).trans s15)), hne', hl', fun H16 s16 => ⟨_, rfl, _, _, rfl, _, rfl, iteNS ?_ ?_⟩⟩
      · refine Bool.eq_iff_iff.mpr ((on_holds hne' φ).trans ?_)
        rw [ew]
        exact hd.symm
      exact ⟨_, _, rfl, ((s13.trans s14).trans s15).trans s16⟩
    · rintro σ H13 ⟨y8, y9, rfl, s13⟩
      exact q _
end

/-! ### what the top has written; the law's own head -/
theorem all_mk {l : PySem.W.OpenLaw} {w : World} {K : PySem.W.Frag} {h : Heap} {mg : Str → Option Value} {fa f1 f2 f3 f4 f5 f6 f7 f8 f9 f10 f11 f12 : Addr} (X : K.In h) (G : h.Ns mainGlobals mg) (hfa : mg "law" = some (.ref fa))
    {od1 an1 od2 an2 od3 an3 od4 an4 od5 an5 od6 an6 od7 an7 od8 an8 od9 an9 od10 an10 od11 an11 od12 an12 : Option Addr} {sl1 sl2 sl3 sl4 sl5 sl6 sl7 sl8 sl9 sl10 sl11 sl12 : Array (Option Value)} {oc1 kV1 dc1 pm1 cd1 ct1 oc2 kV2 dc2 pm2 cd2 ct2 oc3 kV3 dc3 pm3 cd3 ct3 oc4 kV4 dc4 pm4 cd4 ct4 oc5 kV5 dc5 pm5 cd5 ct5 oc6 kV6 dc6 pm6 cd6 ct6 oc7 kV7 dc7 pm7 cd7 ct7 oc8 kV8 dc8 pm8 cd8 ct8 oc9 kV9 dc9 pm9 cd9 ct9 oc10 kV10 dc10 pm10 cd10 ct10 oc11 kV11 dc11 pm11 cd11 ct11 oc12 kV12 dc12 pm12 cd12 ct12 : Value}
    (a1 : PySem.W.nsIn K mainGlobals "standing_at" = some (some (.ref f1))) (l1 : K.lookup f1 = some ⟨oc1, od1, .func (PySem.W.fnOf "standing_at" "standing_at" (defArgs sstanding_at) (defBody sstanding_at) (defScope sstanding_at) .none kV1 dc1 pm1 an1 cd1 ct1), sl1⟩) (c1 : PySem.W.codeIn K cd1 "standing_at" = true) (k1 : PySem.W.keepIn K (.ref f1) = true)
    (a2 : PySem.W.nsIn K mainGlobals "standings_of" = some (some (.ref f2))) (l2 : K.lookup f2 = some ⟨oc2, od2, .func (PySem.W.fnOf "standings_of" "standings_of" (defArgs sstandings_of) (defBody sstandings_of) (defScope sstandings_of) .none kV2 dc2 pm2 an2 cd2 ct2), sl2⟩) (c2 : PySem.W.codeIn K cd2 "standings_of" = true) (k2 : PySem.W.keepIn K (.ref f2) = true)
    (a3 : PySem.W.nsIn K mainGlobals "holds_on" = some (some (.ref f3))) (l3 : K.lookup f3 = some ⟨oc3, od3, .func (PySem.W.fnOf "holds_on" "holds_on" (defArgs sholds_on) (defBody sholds_on) (defScope sholds_on) .none kV3 dc3 pm3 an3 cd3 ct3), sl3⟩) (c3 : PySem.W.codeIn K cd3 "holds_on" = true) (k3 : PySem.W.keepIn K (.ref f3) = true)
    (a4 : PySem.W.nsIn K mainGlobals "_law_pool" = some (some (.ref f4))) (l4 : K.lookup f4 = some ⟨oc4, od4, .func (PySem.W.fnOf "_law_pool" "_law_pool" (defArgs s_law_pool) (defBody s_law_pool) (defScope s_law_pool) .none kV4 dc4 pm4 an4 cd4 ct4), sl4⟩) (c4 : PySem.W.codeIn K cd4 "_law_pool" = true) (k4 : PySem.W.keepIn K (.ref f4) = true)
    (a5 : PySem.W.nsIn K mainGlobals "_law_draw" = some (some (.ref f5))) (l5 : K.lookup f5 = some ⟨oc5, od5, .func (PySem.W.fnOf "_law_draw" "_law_draw" (defArgs s_law_draw) (defBody s_law_draw) (defScope s_law_draw) .none kV5 dc5 pm5 an5 cd5 ct5), sl5⟩) (c5 : PySem.W.codeIn K cd5 "_law_draw" = true) (k5 : PySem.W.keepIn K (.ref f5) = true)
    (a6 : PySem.W.nsIn K mainGlobals "_law_truth" = some (some (.ref f6))) (l6 : K.lookup f6 = some ⟨oc6, od6, .func (PySem.W.fnOf "_law_truth" "_law_truth" (defArgs s_law_truth) (defBody s_law_truth) (defScope s_law_truth) .none kV6 dc6 pm6 an6 cd6 ct6), sl6⟩) (c6 : PySem.W.codeIn K cd6 "_law_truth" = true) (k6 : PySem.W.keepIn K (.ref f6) = true)
    (a7 : PySem.W.nsIn K mainGlobals "_law_unrolled" = some (some (.ref f7))) (l7 : K.lookup f7 = some ⟨oc7, od7, .func (PySem.W.fnOf "_law_unrolled" "_law_unrolled" (defArgs s_law_unrolled) (defBody s_law_unrolled) (defScope s_law_unrolled) .none kV7 dc7 pm7 an7 cd7 ct7), sl7⟩) (c7 : PySem.W.codeIn K cd7 "_law_unrolled" = true) (k7 : PySem.W.keepIn K (.ref f7) = true)
    (a8 : PySem.W.nsIn K mainGlobals "_law_at" = some (some (.ref f8))) (l8 : K.lookup f8 = some ⟨oc8, od8, .func (PySem.W.fnOf "_law_at" "_law_at" (defArgs s_law_at) (defBody s_law_at) (defScope s_law_at) .none kV8 dc8 pm8 an8 cd8 ct8), sl8⟩) (c8 : PySem.W.codeIn K cd8 "_law_at" = true) (k8 : PySem.W.keepIn K (.ref f8) = true)
    (a9 : PySem.W.nsIn K mainGlobals "_law_drawn_run" = some (some (.ref f9))) (l9 : K.lookup f9 = some ⟨oc9, od9, .func (PySem.W.fnOf "_law_drawn_run" "_law_drawn_run" (defArgs s_law_drawn_run) (defBody s_law_drawn_run) (defScope s_law_drawn_run) .none kV9 dc9 pm9 an9 cd9 ct9), sl9⟩) (c9 : PySem.W.codeIn K cd9 "_law_drawn_run" = true) (k9 : PySem.W.keepIn K (.ref f9) = true)
    (a10 : PySem.W.nsIn K mainGlobals "_law_share" = some (some (.ref f10))) (l10 : K.lookup f10 = some ⟨oc10, od10, .func (PySem.W.fnOf "_law_share" "_law_share" (defArgs s_law_share) (defBody s_law_share) (defScope s_law_share) .none kV10 dc10 pm10 an10 cd10 ct10), sl10⟩) (c10 : PySem.W.codeIn K cd10 "_law_share" = true) (k10 : PySem.W.keepIn K (.ref f10) = true)
    (a11 : PySem.W.nsIn K mainGlobals "_law_form" = some (some (.ref f11))) (l11 : K.lookup f11 = some ⟨oc11, od11, .func (PySem.W.fnOf "_law_form" "_law_form" (defArgs s_law_form) (defBody s_law_form) (defScope s_law_form) .none kV11 dc11 pm11 an11 cd11 ct11), sl11⟩) (c11 : PySem.W.codeIn K cd11 "_law_form" = true) (k11 : PySem.W.keepIn K (.ref f11) = true)
    (a12 : PySem.W.nsIn K mainGlobals "law" = some (some (.ref f12))) (l12 : K.lookup f12 = some ⟨oc12, od12, .func (PySem.W.fnOf "law" "law" (defArgs slaw) (defBody slaw) (defScope slaw) .none kV12 dc12 pm12 an12 cd12 ct12), sl12⟩) (c12 : PySem.W.codeIn K cd12 "law" = true) (k12 : PySem.W.keepIn K (.ref f12) = true)
    (z_tuple : PySem.W.nsIn K mainGlobals "tuple" = some none)
    (z_len : PySem.W.nsIn K mainGlobals "len" = some none)
    (z_any : PySem.W.nsIn K mainGlobals "any" = some none)
    (z_all : PySem.W.nsIn K mainGlobals "all" = some none)
    (z_isinstance : PySem.W.nsIn K mainGlobals "isinstance" = some none)
    (z_bool : PySem.W.nsIn K mainGlobals "bool" = some none)
    (z_range : PySem.W.nsIn K mainGlobals "range" = some none)
    : ∃ fd : FuncData, (∀ (s : Shared) (v : Value), BindsTo s fd ⟨[v], []⟩ [("_law_script", v)]) ∧ ∀ base : Heap, K.In base → base.Ns mainGlobals mg → FnOk l.prog w K mg base CX0 3 fa fd ["_law_script"] (spLaw K) := by
  have e := hfa.symm.trans (PySem.W.mg_of X G a12)
  cases e
  have F1 := fun_mk (st := sstanding_at) l1 c1 k1
  have F2 := fun_mk (st := sstandings_of) l2 c2 k2
  have F3 := fun_mk (st := sholds_on) l3 c3 k3
  have F4 := fun_mk (st := s_law_pool) l4 c4 k4
  have F5 := fun_mk (st := s_law_draw) l5 c5 k5
  have F6 := fun_mk (st := s_law_truth) l6 c6 k6
  have F7 := fun_mk (st := s_law_unrolled) l7 c7 k7
  have F8 := fun_mk (st := s_law_at) l8 c8 k8
  have F9 := fun_mk (st := s_law_drawn_run) l9 c9 k9
  have F10 := fun_mk (st := s_law_share) l10 c10 k10
  have F11 := fun_mk (st := s_law_form) l11 c11 k11
  have F12 := fun_mk (st := slaw) l12 c12 k12
  have b1 := F1.binds (ps := ["run", "place"]) fun _ _ _ _ _ _ us hl => match us, hl with | [_, _], _ => rfl
  have b2 := F2.binds (ps := ["run"]) fun _ _ _ _ _ _ us hl => match us, hl with | [_], _ => rfl
  have b3 := F3.binds (ps := ["form", "run"]) fun _ _ _ _ _ _ us hl => match us, hl with | [_, _], _ => rfl
  have b4 := F4.binds (ps := ["_law_script"]) fun _ _ _ _ _ _ us hl => match us, hl with | [_], _ => rfl
  have b5 := F5.binds (ps := ["_law_pool_here", "_law_many"]) fun _ _ _ _ _ _ us hl => match us, hl with | [_, _], _ => rfl
  have b6 := F6.binds (ps := ["_law_found", "_law_due"]) fun _ _ _ _ _ _ us hl => match us, hl with | [_, _], _ => rfl
  have b7 := F7.binds (ps := ["_law_run", "_law_laps", "_law_many"]) fun _ _ _ _ _ _ us hl => match us, hl with | [_, _, _], _ => rfl
  have b8 := F8.binds (ps := ["_law_run", "_law_place"]) fun _ _ _ _ _ _ us hl => match us, hl with | [_, _], _ => rfl
  have b9 := F9.binds (ps := ["_law_pool_here", "_law_some", "_law_most", "_law_wide"]) fun _ _ _ _ _ _ us hl => match us, hl with | [_, _, _, _], _ => rfl
  have b10 := F10.binds (ps := ["_law_pool_here"]) fun _ _ _ _ _ _ us hl => match us, hl with | [_], _ => rfl
  have b11 := F11.binds (ps := ["_law_form_here", "_law_run"]) fun _ _ _ _ _ _ us hl => match us, hl with | [_, _], _ => rfl
  have T : Bi mg := ⟨PySem.W.mg_none_of X G z_tuple, PySem.W.mg_none_of X G z_len, PySem.W.mg_none_of X G z_any, PySem.W.mg_none_of X G z_all, PySem.W.mg_none_of X G z_isinstance, PySem.W.mg_none_of X G z_bool, PySem.W.mg_none_of X G z_range⟩
  refine ⟨PySem.W.fnOf "law" "law" (defArgs slaw) (defBody slaw) (defScope slaw) .none kV12 dc12 pm12 an12 cd12 ct12, fun s v => .of_eq rfl, fun base _ _ => ?_⟩
  have cstanding_at : Cal l.prog w K mg base 1 "standing_at" ["run", "place"] (spStandAt K) := ⟨f1, _, ok_standat F1 T, PySem.W.mg_of X G a1, F1.kp, b1⟩
  have cstandings_of : Cal l.prog w K mg base 1 "standings_of" ["run"] (spStands K) := ⟨f2, _, ok_stands F2 T, PySem.W.mg_of X G a2, F2.kp, b2⟩
  have cholds_on : Cal l.prog w K mg base 2 "holds_on" ["form", "run"] (spHolds K) := ⟨f3, _, ok_holds F3 T cstanding_at cstandings_of, PySem.W.mg_of X G a3, F3.kp, b3⟩
  have c_law_pool : Cal l.prog w K mg base 1 "_law_pool" ["_law_script"] (spPool K) := ⟨f4, _, ok_pool F4 , PySem.W.mg_of X G a4, F4.kp, b4⟩
  have c_law_draw : Cal l.prog w K mg base 1 "_law_draw" ["_law_pool_here", "_law_many"] spDraw := ⟨f5, _, ok_draw F5 T, PySem.W.mg_of X G a5, F5.kp, b5⟩
  have c_law_truth : Cal l.prog w K mg base 1 "_law_truth" ["_law_found", "_law_due"] spTruth := ⟨f6, _, ok_truth F6 T, PySem.W.mg_of X G a6, F6.kp, b6⟩
  have c_law_unrolled : Cal l.prog w K mg base 1 "_law_unrolled" ["_law_run", "_law_laps", "_law_many"] (spUnrolled K) := ⟨f7, _, ok_unrolled F7 T, PySem.W.mg_of X G a7, F7.kp, b7⟩
  have c_law_at : Cal l.prog w K mg base 1 "_law_at" ["_law_run", "_law_place"] (spLAt K) := ⟨f8, _, ok_lat F8 T, PySem.W.mg_of X G a8, F8.kp, b8⟩
  have c_law_drawn_run : Cal l.prog w K mg base 2 "_law_drawn_run" ["_law_pool_here", "_law_some", "_law_most", "_law_wide"] (spDrawnRun K) := ⟨f9, _, ok_drawnrun F9 T c_law_draw, PySem.W.mg_of X G a9, F9.kp, b9⟩
  have c_law_share : Cal l.prog w K mg base 2 "_law_share" ["_law_pool_here"] (spShare K) := ⟨f10, _, ok_share F10 T c_law_draw, PySem.W.mg_of X G a10, F10.kp, b10⟩
  have c_law_form : Cal l.prog w K mg base 2 "_law_form" ["_law_form_here", "_law_run"] (spForm K) := ⟨f11, _, ok_form F11 T c_law_at, PySem.W.mg_of X G a11, F11.kp, b11⟩
  exact ok_law F12 T c_law_pool c_law_draw c_law_drawn_run c_law_share c_law_unrolled c_law_form c_law_truth cholds_on
end Fx
open PySem PySem.W PyProof.Rows
set_option maxHeartbeats 0 in
theorem PySem.Challenge.cw_fairtrees_k22_whole_forms_holds : PySem.Challenge.rw_fairtrees_k22_whole_forms.Holds := by
  w_on; o_law; k_head; (case hw => w_witness2)
  k_fill
  refine L2.walk_of (l := PySem.Challenge.rw_fairtrees_k22_whole_forms) (n := 63) (k := 3) (x := "_law_script") (CX := fun _ => L2.CX0) (sp := fun w => Fx.spLaw _) rfl (by decide) rfl ⟨rfl, by decide, by decide⟩ (fun w h Y => PySem.W.kIn_of Y) ?F (fun _ _ a ns hl _ hS => ⟨a, ns, rfl, hS, hl, fun _ => rfl⟩) (fun _ _ _ _ _ h => h)
  case F =>
    intro w mg fa h KX G hmg
    refine' Fx.all_mk KX G hmg ?a1 ?l1 ?c1 ?k1 ?a2 ?l2 ?c2 ?k2 ?a3 ?l3 ?c3 ?k3 ?a4 ?l4 ?c4 ?k4 ?a5 ?l5 ?c5 ?k5 ?a6 ?l6 ?c6 ?k6 ?a7 ?l7 ?c7 ?k7 ?a8 ?l8 ?c8 ?k8 ?a9 ?l9 ?c9 ?k9 ?a10 ?l10 ?c10 ?k10 ?a11 ?l11 ?c11 ?k11 ?a12 ?l12 ?c12 ?k12 ?z_tuple ?z_len ?z_any ?z_all ?z_isinstance ?z_bool ?z_range
    (case a1 => k_is); (case l1 => k_is); (case c1 => k_is); (case k1 => k_is); (case a2 => k_is); (case l2 => k_is); (case c2 => k_is); (case k2 => k_is); (case a3 => k_is); (case l3 => k_is); (case c3 => k_is); (case k3 => k_is); (case a4 => k_is); (case l4 => k_is); (case c4 => k_is); (case k4 => k_is); (case a5 => k_is); (case l5 => k_is); (case c5 => k_is); (case k5 => k_is); (case a6 => k_is); (case l6 => k_is); (case c6 => k_is); (case k6 => k_is); (case a7 => k_is); (case l7 => k_is); (case c7 => k_is); (case k7 => k_is); (case a8 => k_is); (case l8 => k_is); (case c8 => k_is); (case k8 => k_is); (case a9 => k_is); (case l9 => k_is); (case c9 => k_is); (case k9 => k_is); (case a10 => k_is); (case l10 => k_is); (case c10 => k_is); (case k10 => k_is); (case a11 => k_is); (case l11 => k_is); (case c11 => k_is); (case k11 => k_is); (case a12 => k_is); (case l12 => k_is); (case c12 => k_is); (case k12 => k_is); (case z_tuple => k_is); (case z_len => k_is); (case z_any => k_is); (case z_all => k_is); (case z_isinstance => k_is); (case z_bool => k_is); (case z_range => k_is)
