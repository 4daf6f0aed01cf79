import PyProof.Rows.All
import Wide.All
import OpenK.AllK
import Wide.FinOn
import HandS.ForMost
import HandS.TupAny
import HandS.TupMul
import HandS.IsInst
import HandS.TupLe
import HandS.DictComp
import HandS.Conv
import HandS.Walk
import HandS.Evl
import KE.GoesMore
import PyProof.Draws
import PyProof.CollectIter
import PyProof.WalksMore
import PyProof.TupleOfSeq
import KE.KDictList
import HandS.Defaults
import HandS.MakeKwOnly
import HandS.Deep
import PySem.Challenge.RW_fairtrees_k21_fair_runs
set_option Elab.async false
set_option linter.all false
set_option maxRecDepth 100000
set_option maxHeartbeats 4000000
namespace Fx
open PySem PySem.Spec PyProof.Rows L2
def topS (i : Nat) : Stmt := PySem.Challenge.pw_fairtrees_k21_fair_runs.main.body.getD i (.Pass ⟨0, 0, 0, 0⟩)

/-! ### heaps, data, the pool of draws -/
/-- a def of the text as its callers see it -/
structure Cal (P : Program) (w : World) (K : PySem.W.Frag) (mg : Str → Option Value) (base : Heap) (k : Nat) (x : Str) (ps : List Str) (sp : Sp) where
  f : Addr
  fd : FuncData
  G : FnOk P w K mg base CX0 k f fd ps sp
  g : mg x = some (.ref f)
  kp : PySem.W.keepIn K (.ref f) = true
  b : Binds K fd ps []
theorem same_upd {H : Hp} {p : Addr} {o : HO} (h : H p = none) : Same H (upd H p o) := fun b x e => by
  rw [upd_ne (ne_of_none e h)]
  exact e
/-- an object that H does not know may change -/
theorem smut {H H' : Hp} {p : Addr} {o : HO} (e : Same H H') (h : H p = none) : Same H (upd H' p o) := fun a u ha => by
  rw [upd_ne (ne_of_none ha h)]
  exact e a u ha
/-- all tuples stand -/
def Imm (H H' : Hp) : Prop := ∀ a xs, Rd H a (.tup xs) → Rd H' a (.tup xs)
theorem Imm.refl (H : Hp) : Imm H H := fun _ _ h => h
theorem Imm.trans {H H1 H2 : Hp} (a : Imm H H1) (b : Imm H1 H2) : Imm H H2 := fun x xs h => b x xs (a x xs h)
theorem simm {H H' : Hp} (e : Same H H') : Imm H H' := fun a xs h => by
  rcases h with h | ⟨o, h⟩
  · exact .inl (e _ _ h)
  · exact .inr ⟨o, e _ _ h⟩
theorem Imm.sq {K : PySem.W.Frag} {H H' : Hp} {a : Addr} {xs : List V} (e : Imm H H') (h : SqT K H a xs) : SqT K H' a xs := by
  rcases h with h | h
  · exact .inl (e _ _ h)
  · exact .inr h
theorem ssqt {K : PySem.W.Frag} {H H' : Hp} {a : Addr} {xs : List V} (e : Same H H') (h : SqT K H a xs) : SqT K H' a xs := (simm e).sq h
/-- a list that changes is no tuple -/
theorem Imm.list {H : Hp} {p : Addr} {xs : List V} {o : HO} (h : H p = some (.lst xs)) : Imm H (upd H p o) := fun a ys e => by
  rcases e with e | ⟨u, e⟩
  · exact .inl (by rw [upd_ne (ne_of h e (by intro q; cases q)).symm]; exact e)
  · exact .inr ⟨u, by rw [upd_ne (ne_of h e (by intro q; cases q)).symm]; exact e⟩
theorem Imm.new {H : Hp} {p : Addr} {o : HO} (h : H p = none) : Imm H (upd H p o) := simm (same_upd h)
/-- a list of addresses, each a tuple of such things -/
inductive Each {α : Type} (R : Addr → α → Prop) : List Addr → List α → Prop where
  | nil : Each R [] []
  | cons {a : Addr} {as : List Addr} {x : α} {xs : List α} (h : R a x) (t : Each R as xs) : Each R (a :: as) (x :: xs)
theorem Each.imp {α : Type} {R S : Addr → α → Prop} (f : ∀ a x, R a x → S a x) : ∀ {as : List Addr} {xs : List α}, Each R as xs → Each S as xs
  | _, _, .nil => .nil
  | _, _, .cons h t => .cons (f _ _ h) (t.imp f)
theorem Each.len {α : Type} {R : Addr → α → Prop} : ∀ {as : List Addr} {xs : List α}, Each R as xs → as.length = xs.length
  | _, _, .nil => rfl
  | _, _, .cons _ t => by rw [List.length_cons, List.length_cons, t.len]
theorem Each.get {α : Type} {R : Addr → α → Prop} : ∀ {as : List Addr} {xs : List α} {i : Nat} {a : Addr}, Each R as xs → as[i]? = some a → ∃ x, xs[i]? = some x ∧ R a x
  | _, _, _, _, .nil, h => by simp at h
  | _, _, 0, _, .cons (x := x) r _, h => by
    have e := Option.some.inj h
    subst e
    exact ⟨x, rfl, r⟩
  | _, _, i + 1, _, .cons _ t, h => by
    obtain ⟨x, h1, h2⟩ := t.get (i := i) (by simpa using h)
    exact ⟨x, by simpa using h1, h2⟩
theorem Each.getx {α : Type} {R : Addr → α → Prop} : ∀ {as : List Addr} {xs : List α} {i : Nat} {x : α}, Each R as xs → xs[i]? = some x → ∃ a, as[i]? = some a ∧ R a x
  | _, _, _, _, .nil, h => by simp at h
  | _, _, 0, _, .cons (a := a) r _, h => by
    have e := Option.some.inj h
    subst e
    exact ⟨a, rfl, r⟩
  | _, _, i + 1, _, .cons _ t, h => by
    obtain ⟨x, h1, h2⟩ := t.getx (i := i) (by simpa using h)
    exact ⟨x, by simpa using h1, h2⟩
theorem Each.snoc {α : Type} {R : Addr → α → Prop} {a : Addr} {x : α} (r : R a x) : ∀ {as : List Addr} {xs : List α}, Each R as xs → Each R (as ++ [a]) (xs ++ [x])
  | _, _, .nil => .cons r .nil
  | _, _, .cons h t => .cons h (t.snoc r)
theorem map_get {α : Type} {f : α → V} {xs : List α} {i : Nat} {v : V} (h : (xs.map f)[i]? = some v) : ∃ x, xs[i]? = some x ∧ v = f x := by
  rw [List.getElem?_map] at h
  cases e : xs[i]? with
  | none =>
    rw [e] at h
    cases h
  | some x =>
    rw [e] at h
    exact ⟨x, rfl, (Option.some.inj h).symm⟩
theorem get_map {α : Type} {f : α → V} {xs : List α} {i : Nat} {x : α} (h : xs[i]? = some x) : (xs.map f)[i]? = some (f x) := by
  rw [List.getElem?_map, h]
  rfl
theorem notdec {p : Prop} [Decidable p] (h : (!decide p) = true) : ¬ p := by simpa using h
theorem dec_of {p : Prop} [Decidable p] (h : ¬ ((!decide p) = true)) : p := by simpa using h
theorem ixN_nat {n j : Nat} (hj : j < n) : ixN n (j : Int) = some j := by
  unfold ixN
  rw [if_pos (by omega), if_pos (by omega)]
  simp
theorem ixN0 {n : Nat} (h : 0 < n) : ixN n 0 = some 0 := ixN_nat (j := 0) h
theorem six0 {n : Nat} (h : 0 < n) : seqIndex? 0 n = some 0 := by
  unfold seqIndex?
  simp
  omega
theorem szOk {n : Nat} (h : n ≤ 100000) : n ≤ sizeLine := Nat.le_trans h (by decide)
theorem szLt {n : Nat} (h : n < 100000) : n < sizeLine := Nat.lt_of_lt_of_le h (by decide)
theorem ty_sqt {K : PySem.W.Frag} {H : Hp} {a : Addr} {xs : List V} (h : SqT K H a xs) : TyX K H (.ref a) (.type "tuple") := by
  rcases h with (h | ⟨o, h⟩) | ⟨o, its, n, hk, hc, _⟩
  · exact .base (.tup h)
  · exact .fTuple h
  · exact .kTuple hk hc
/-- the pool's addresses: itself, its great numbers, its small ones -/
structure PA where
  p : Addr
  g : Addr
  s : Addr
def Off (a : PA) (b : Addr) : Prop := b ≠ a.p ∧ b ≠ a.g ∧ b ≠ a.s
structure Pool (H : Hp) (a : PA) (c : Nat) : Prop where
  ex : ∃ (gs ss : List Int) (st ct : Int), H a.p = some (.lst [.ref a.g, .ref a.s, .int st, .int ct]) ∧ H a.g = some (.lst (gs.map V.int)) ∧ H a.s = some (.lst (ss.map V.int)) ∧
    gs.length ≤ 63 ∧ ss.length ≤ 63 ∧ 0 ≤ st ∧ st < 2147483647 ∧ 0 ≤ ct ∧ ct ≤ c ∧ a.s ≠ a.g
/-- all but the pool stands -/
def Kp (a : PA) (H H' : Hp) : Prop := ∀ b o, H b = some o → Off a b → H' b = some o
theorem Kp.refl {a : PA} (H : Hp) : Kp a H H := fun _ _ h _ => h
theorem Kp.trans {a : PA} {H H1 H2 : Hp} (x : Kp a H H1) (y : Kp a H1 H2) : Kp a H H2 := fun c o h n => y c o (x c o h n) n
theorem skp {a : PA} {H H' : Hp} (s : Same H H') : Kp a H H' := fun b o h _ => s b o h
theorem Kp.mut {a : PA} {H H' : Hp} {q : Addr} {o : HO} (e : Kp a H H') (h : H q = none) : Kp a H (upd H' q o) := fun b u hb n => by
  rw [upd_ne (ne_of_none hb h)]
  exact e b u hb n
theorem Kp.free {a : PA} {H H' : Hp} {l : Addr} (k : Kp a H H') (h : H' l = none) (n : Off a l) : H l = none := by
  cases e : H l with
  | none => rfl
  | some o =>
    rw [k l o e n] at h
    cases h
theorem Pool.mono {H : Hp} {a : PA} {c c' : Nat} (P : Pool H a c) (h : c ≤ c') : Pool H a c' := by
  obtain ⟨gs, ss, st, ct, a1, a2, a3, a4, a5, a6, a7, a8, a9, a10⟩ := P.ex
  exact ⟨gs, ss, st, ct, a1, a2, a3, a4, a5, a6, a7, a8, by omega, a10⟩
theorem Pool.same {H H' : Hp} {a : PA} {c : Nat} (P : Pool H a c) (e : Same H H') : Pool H' a c := by
  obtain ⟨gs, ss, st, ct, a1, a2, a3, a4, a5, a6, a7, a8, a9, a10⟩ := P.ex
  exact ⟨gs, ss, st, ct, e _ _ a1, e _ _ a2, e _ _ a3, a4, a5, a6, a7, a8, a9, a10⟩
theorem Pool.off {H : Hp} {a : PA} {b : Addr} {c : Nat} (P : Pool H a c) (h : H b = none) : Off a b := by
  obtain ⟨gs, ss, st, ct, a1, a2, a3, a4, a5, a6, a7, a8, a9, a10⟩ := P.ex
  exact ⟨(ne_of_none a1 h).symm, (ne_of_none a2 h).symm, (ne_of_none a3 h).symm⟩
/-- what is no list is none of the pool's -/
theorem Pool.offo {H : Hp} {a : PA} {b : Addr} {c : Nat} {o : HO} (P : Pool H a c) (h : H b = some o) (n : ∀ xs, o ≠ .lst xs) : Off a b := by
  obtain ⟨gs, ss, st, ct, a1, a2, a3, a4, a5, a6, a7, a8, a9, a10⟩ := P.ex
  exact ⟨(ne_of a1 h (n _).symm).symm, (ne_of a2 h (n _).symm).symm, (ne_of a3 h (n _).symm).symm⟩
theorem Pool.imm {H H' : Hp} {a : PA} {c : Nat} (P : Pool H a c) (k : Kp a H H') : Imm H H' := fun b xs h => by
  rcases h with h | ⟨o, h⟩
  · exact .inl (k _ _ h (P.offo h fun _ q => by cases q))
  · exact .inr ⟨o, k _ _ h (P.offo h fun _ q => by cases q)⟩
/-- an object beside the pool is laid or changed -/
theorem Pool.upd {H : Hp} {a : PA} {b : Addr} {c : Nat} {o : HO} (P : Pool H a c) (n : Off a b) : Pool (upd H b o) a c := by
  obtain ⟨gs, ss, st, ct, a1, a2, a3, a4, a5, a6, a7, a8, a9, a10⟩ := P.ex
  exact ⟨gs, ss, st, ct, by rw [upd_ne n.1.symm]; exact a1, by rw [upd_ne n.2.1.symm]; exact a2, by rw [upd_ne n.2.2.symm]; exact a3, a4, a5, a6, a7, a8, a9, a10⟩
/-! ### rules within a comprehension's block: the written part by its name -/
section
variable {X : Cx}
theorem ixL (K : PySem.W.Frag) (h : X.K = K := by rfl) : IxR X (rIxL K) := by subst h; exact ix_list
theorem ixT (K : PySem.W.Frag) (h : X.K = K := by rfl) : IxR X (rIxT K) := by subst h; exact ix_tup
theorem inS (K : PySem.W.Frag) (h : X.K = K := by rfl) : OpR X (compareOp .In) (rIn K false) := by subst h; exact op_in_seq
theorem ninS (K : PySem.W.Frag) (h : X.K = K := by rfl) : OpR X (compareOp .NotIn) (rIn K true) := by subst h; exact op_notIn_seq
theorem lenS (K : PySem.W.Frag) (h : X.K = K := by rfl) : CallR X (.builtin "len") (fun xs H Q => ∃ p ys, xs = [.ref p] ∧ (SqL K H p ys ∨ SqT K H p ys) ∧ Q (.int ys.length) H) := by subst h; exact call_len_seq
theorem isiK (K : PySem.W.Frag) (h : X.K = K := by rfl) : CallR X (.builtin "isinstance") (rIsi K) := by subst h; exact call_isi
theorem tupOf (K : PySem.W.Frag) (h : X.K = K := by rfl) : CallR X (.type "tuple") (fun xs H Q => ∃ p ys, xs = [.ref p] ∧ ((SqL K H p ys ∧ ∀ l, H l = none → Q (.ref l) (upd H l (.tup ys))) ∨ (SqT K H p ys ∧ Q (.ref p) H))) := by subst h; exact call_tuple_of
theorem slL (K : PySem.W.Frag) (h : X.K = K := by rfl) : SlR X (rSlL K) := by subst h; exact sl_list
theorem slA (K : PySem.W.Frag) (h : X.K = K := by rfl) : SlR X (rSlA K) := by subst h; exact sl_tupA
theorem catA (K : PySem.W.Frag) (h : X.K = K := by rfl) : OpR X (binaryOp .Add) (rCatA K) := by subst h; exact op_catA
theorem sortS (K : PySem.W.Frag) (h : X.K = K := by rfl) : CallR X (.builtin "sorted") (rSortedS K) := by subst h; exact cr_sortedS
theorem sortI (K : PySem.W.Frag) (h : X.K = K := by rfl) : CallR X (.builtin "sorted") (rSorted K) := by subst h; exact cr_sorted
end
/-! ### comprehensions: what holds of the list so far -/
section
variable {K : PySem.W.Frag}
/-- over a range, its turns drawing from the pool (k draws a turn) -/
theorem lc_rangeP {lo : Int} {n j : Nat} {tt : TT} {te : TE} {vs : List Nat} {σ : L2.St} {H1 : Hp} {D : Addr} {Qd : Hp → Prop} {a : PA} {c0 : Nat} (k : Nat) (ok : Nat → List V → Prop)
    (P0 : Pool H1 a c0) (hD : H1 D = none) (hn : n ≤ 100000) (h0 : ok 0 []) (hw : ∀ x, wipe ((wipe σ vs).set j (some x)) vs = wipe σ vs)
    (turn : ∀ (i : Nat) (H : Hp) (acc : List V), i < n → Pool H a (c0 + i * k) → Kp a H1 H → ok i acc → acc.length ≤ i → ∀ (N1 : V → Hp → Prop) (N2 : Hp → Prop),
      (∀ y H', Pool H' a (c0 + i * k + k) → Kp a H H' → ok (i + 1) (acc ++ [y]) → N1 y H') → (∀ H', Pool H' a (c0 + i * k + k) → Kp a H H' → ok (i + 1) acc → N2 H') →
      tt ((wipe σ vs).set j (some (.int (lo + i)))) H fun b H3 => if b = true then te ((wipe σ vs).set j (some (.int (lo + i)))) H3 N1 else N2 H3)
    (done : ∀ (H : Hp) (acc : List V), Pool H a (c0 + n * k) → Kp a H1 H → H D = some (.lst acc) → acc.length ≤ n → ok n acc → Off a D → Qd H) :
    ∃ W : Nat → Nat → Hp → Prop, (∃ m, W 0 m (upd H1 D (.lst []))) ∧ ∀ i m H, W i m H →
      ((Itr lo n).stop i H ∧ Qd H) ∨ ((Itr lo n).go i H ∧ ∃ Nx : Hp → Prop, (∀ H', Nx H' → ∃ m', m' < m ∧ W (i + 1) m' H') ∧ ∀ x H', (Itr lo n).yld i H x H' → (gName j) x (wipe σ vs) H' fun σ2 H2 => wipe σ2 vs = wipe σ vs ∧ tt σ2 H2 fun b H3 =>
        if b = true then te σ2 H3 fun y H4 => ∃ acc, H4 D = some (.lst acc) ∧ acc.length < sizeLine ∧ Nx (upd H4 D (.lst (acc ++ [y]))) else Nx H3) := by
  have oD : Off a D := P0.off hD
  refine lc_range (lo := lo) (n := n) (fun i H => ∃ acc, Pool H a (c0 + i * k) ∧ Kp a H1 H ∧ H D = some (.lst acc) ∧ acc.length ≤ i ∧ ok i acc) ⟨[], ?_, skp (same_upd hD), upd_same, Nat.le_refl _, h0⟩ (fun i H hi p => ?_) (fun H p => ?_)
  · rw [Nat.zero_mul]
    exact P0.upd oD
  · obtain ⟨acc, p1, p2, p3, p4, p5⟩ := p
    refine ⟨hw _, turn i H acc hi p1 p2 p5 p4 _ _ (fun y H' q1 q2 q3 => ⟨acc, q2 _ _ p3 oD, szLt (by omega), acc ++ [y], ?_, ?_, upd_same, ?_, q3⟩) (fun H' q1 q2 q3 => ⟨acc, ?_, p2.trans q2, q2 _ _ p3 oD, by omega, q3⟩)⟩
    · rw [Nat.succ_mul, ← Nat.add_assoc]
      exact q1.upd oD
    · exact Kp.mut (p2.trans q2) hD
    · rw [List.length_append]
      show acc.length + 1 ≤ i + 1
      omega
    · rw [Nat.succ_mul, ← Nat.add_assoc]
      exact q1
  · obtain ⟨acc, p1, p2, p3, p4, p5⟩ := p
    exact done H acc p1 p2 p3 p4 p5 oD
/-- over a walked thing, its turns changing nothing that stood -/
theorem lc_rangeS {lo : Int} {n j : Nat} {tt : TT} {te : TE} {vs : List Nat} {σ : L2.St} {H1 : Hp} {D : Addr} {Qd : Hp → Prop} (ok : Nat → List V → Prop)
    (hD : H1 D = none) (hn : n ≤ 100000) (h0 : ok 0 []) (hw : ∀ x, wipe ((wipe σ vs).set j (some x)) vs = wipe σ vs)
    (turn : ∀ (i : Nat) (H : Hp) (acc : List V), i < n → Same H1 H → ok i acc → acc.length ≤ i → ∀ (N1 : V → Hp → Prop) (N2 : Hp → Prop),
      (∀ y H', Same H H' → ok (i + 1) (acc ++ [y]) → N1 y H') → (∀ H', Same H H' → ok (i + 1) acc → N2 H') →
      tt ((wipe σ vs).set j (some (.int (lo + i)))) H fun b H3 => if b = true then te ((wipe σ vs).set j (some (.int (lo + i)))) H3 N1 else N2 H3)
    (done : ∀ (H : Hp) (acc : List V), Same H1 H → H D = some (.lst acc) → acc.length ≤ n → ok n acc → Qd H) :
    ∃ W : Nat → Nat → Hp → Prop, (∃ m, W 0 m (upd H1 D (.lst []))) ∧ ∀ i m H, W i m H →
      ((Itr lo n).stop i H ∧ Qd H) ∨ ((Itr lo n).go i H ∧ ∃ Nx : Hp → Prop, (∀ H', Nx H' → ∃ m', m' < m ∧ W (i + 1) m' H') ∧ ∀ x H', (Itr lo n).yld i H x H' → (gName j) x (wipe σ vs) H' fun σ2 H2 => wipe σ2 vs = wipe σ vs ∧ tt σ2 H2 fun b H3 =>
        if b = true then te σ2 H3 fun y H4 => ∃ acc, H4 D = some (.lst acc) ∧ acc.length < sizeLine ∧ Nx (upd H4 D (.lst (acc ++ [y]))) else Nx H3) := by
  refine lc_range (lo := lo) (n := n) (fun i H => ∃ acc, Same H1 H ∧ H D = some (.lst acc) ∧ acc.length ≤ i ∧ ok i acc) ⟨[], same_upd hD, upd_same, Nat.le_refl _, h0⟩ (fun i H hi p => ?_) (fun H p => ?_)
  · obtain ⟨acc, p2, p3, p4, p5⟩ := p
    refine ⟨hw _, turn i H acc hi p2 p5 p4 _ _ (fun y H' q2 q3 => ⟨acc, q2 _ _ p3, szLt (by omega), acc ++ [y], smut (p2.trans q2) hD, upd_same, ?_, q3⟩) (fun H' q2 q3 => ⟨acc, p2.trans q2, q2 _ _ p3, by omega, q3⟩)⟩
    rw [List.length_append]
    show acc.length + 1 ≤ i + 1
    omega
  · obtain ⟨acc, p2, p3, p4, p5⟩ := p
    exact done H acc p2 p3 p4 p5
theorem lc_listS {a : Addr} {xs : List V} {j : Nat} {tt : TT} {te : TE} {vs : List Nat} {σ : L2.St} {H1 : Hp} {D : Addr} {Qd : Hp → Prop} (ok : Nat → List V → Prop)
    (hx : SqL K H1 a xs) (hD : H1 D = none) (hn : xs.length ≤ 100000) (h0 : ok 0 []) (hw : ∀ x, wipe ((wipe σ vs).set j (some x)) vs = wipe σ vs)
    (turn : ∀ (i : Nat) (x : V) (H : Hp) (acc : List V), xs[i]? = some x → Same H1 H → ok i acc → acc.length ≤ i → ∀ (N1 : V → Hp → Prop) (N2 : Hp → Prop),
      (∀ y H', Same H H' → ok (i + 1) (acc ++ [y]) → N1 y H') → (∀ H', Same H H' → ok (i + 1) acc → N2 H') →
      tt ((wipe σ vs).set j (some x)) H fun b H3 => if b = true then te ((wipe σ vs).set j (some x)) H3 N1 else N2 H3)
    (done : ∀ (H : Hp) (acc : List V), Same H1 H → H D = some (.lst acc) → acc.length ≤ xs.length → ok xs.length acc → Qd H) :
    ∃ W : Nat → Nat → Hp → Prop, (∃ m, W 0 m (upd H1 D (.lst []))) ∧ ∀ i m H, W i m H →
      ((Itl K a).stop i H ∧ Qd H) ∨ ((Itl K a).go i H ∧ ∃ Nx : Hp → Prop, (∀ H', Nx H' → ∃ m', m' < m ∧ W (i + 1) m' H') ∧ ∀ x H', (Itl K a).yld i H x H' → (gName j) x (wipe σ vs) H' fun σ2 H2 => wipe σ2 vs = wipe σ vs ∧ tt σ2 H2 fun b H3 =>
        if b = true then te σ2 H3 fun y H4 => ∃ acc, H4 D = some (.lst acc) ∧ acc.length < sizeLine ∧ Nx (upd H4 D (.lst (acc ++ [y]))) else Nx H3) := by
  refine lc_list (xs := xs) (fun i H => ∃ acc, Same H1 H ∧ H D = some (.lst acc) ∧ acc.length ≤ i ∧ ok i acc) ⟨[], same_upd hD, upd_same, Nat.le_refl _, h0⟩ (fun i H _ p => ?_) (fun i x H hi p => ?_) (fun H p => ?_)
  · obtain ⟨acc, p2, _⟩ := p
    exact p2.seq hx
  · obtain ⟨acc, p2, p3, p4, p5⟩ := p
    have hil : i < xs.length := (List.getElem?_eq_some_iff.mp hi).1
    refine ⟨hw _, turn i x H acc hi p2 p5 p4 _ _ (fun y H' q2 q3 => ⟨acc, q2 _ _ p3, szLt (by omega), acc ++ [y], smut (p2.trans q2) hD, upd_same, ?_, q3⟩) (fun H' q2 q3 => ⟨acc, p2.trans q2, q2 _ _ p3, by omega, q3⟩)⟩
    rw [List.length_append]
    show acc.length + 1 ≤ i + 1
    omega
  · obtain ⟨acc, p2, p3, p4, p5⟩ := p
    exact done H acc p2 p3 p4 p5
theorem lc_tupS {a : Addr} {xs : List V} {j : Nat} {tt : TT} {te : TE} {vs : List Nat} {σ : L2.St} {H1 : Hp} {D : Addr} {Qd : Hp → Prop} (ok : Nat → List V → Prop)
    (hx : SqT K H1 a xs) (hD : H1 D = none) (hn : xs.length ≤ 100000) (h0 : ok 0 []) (hw : ∀ x, wipe ((wipe σ vs).set j (some x)) vs = wipe σ vs)
    (turn : ∀ (i : Nat) (x : V) (H : Hp) (acc : List V), xs[i]? = some x → Same H1 H → ok i acc → acc.length ≤ i → ∀ (N1 : V → Hp → Prop) (N2 : Hp → Prop),
      (∀ y H', Same H H' → ok (i + 1) (acc ++ [y]) → N1 y H') → (∀ H', Same H H' → ok (i + 1) acc → N2 H') →
      tt ((wipe σ vs).set j (some x)) H fun b H3 => if b = true then te ((wipe σ vs).set j (some x)) H3 N1 else N2 H3)
    (done : ∀ (H : Hp) (acc : List V), Same H1 H → H D = some (.lst acc) → acc.length ≤ xs.length → ok xs.length acc → Qd H) :
    ∃ W : Nat → Nat → Hp → Prop, (∃ m, W 0 m (upd H1 D (.lst []))) ∧ ∀ i m H, W i m H →
      ((Itt K a).stop i H ∧ Qd H) ∨ ((Itt K a).go i H ∧ ∃ Nx : Hp → Prop, (∀ H', Nx H' → ∃ m', m' < m ∧ W (i + 1) m' H') ∧ ∀ x H', (Itt K a).yld i H x H' → (gName j) x (wipe σ vs) H' fun σ2 H2 => wipe σ2 vs = wipe σ vs ∧ tt σ2 H2 fun b H3 =>
        if b = true then te σ2 H3 fun y H4 => ∃ acc, H4 D = some (.lst acc) ∧ acc.length < sizeLine ∧ Nx (upd H4 D (.lst (acc ++ [y]))) else Nx H3) := by
  refine lc_tup (xs := xs) (fun i H => ∃ acc, Same H1 H ∧ H D = some (.lst acc) ∧ acc.length ≤ i ∧ ok i acc) ⟨[], same_upd hD, upd_same, Nat.le_refl _, h0⟩ (fun i H _ p => ?_) (fun i x H hi p => ?_) (fun H p => ?_)
  · obtain ⟨acc, p2, _⟩ := p
    exact ssqt p2 hx
  · obtain ⟨acc, p2, p3, p4, p5⟩ := p
    have hil : i < xs.length := (List.getElem?_eq_some_iff.mp hi).1
    refine ⟨hw _, turn i x H acc hi p2 p5 p4 _ _ (fun y H' q2 q3 => ⟨acc, q2 _ _ p3, szLt (by omega), acc ++ [y], smut (p2.trans q2) hD, upd_same, ?_, q3⟩) (fun H' q2 q3 => ⟨acc, p2.trans q2, q2 _ _ p3, by omega, q3⟩)⟩
    rw [List.length_append]
    show acc.length + 1 ≤ i + 1
    omega
  · obtain ⟨acc, p2, p3, p4, p5⟩ := p
    exact done H acc p2 p3 p4 p5
end

/-- what the top leaves of the names that the text reads -/
structure Bi (mg : Str → Option Value) : Prop where
  range : mg "range" = none
  tuple : mg "tuple" = none
  any : mg "any" = none
  len : mg "len" = none
  isinstance : mg "isinstance" = none
  bool : mg "bool" = none
  list : mg "list" = none
  sorted : mg "sorted" = none

/-! ### _law_pool, _law_draw -/
abbrev s_law_pool : Stmt := topS 6
theorem sc_law_pool : FnScope ["_law_script", "_law_great", "_law_cell"] ["_law_script"] (defScope s_law_pool) := ⟨rfl, rfl, rfl, by decide +kernel, rfl, by decide +kernel, by decide +kernel⟩
abbrev s_law_draw : Stmt := topS 7
theorem sc_law_draw : FnScope ["_law_pool_here", "_law_many", "_law_cell"] ["_law_pool_here", "_law_many"] (defScope s_law_draw) := ⟨rfl, rfl, rfl, by decide +kernel, rfl, by decide +kernel, by decide +kernel⟩
section
variable {P : Program} {w : World} {K : PySem.W.Frag} {mg : Str → Option Value} {base : Heap}
def spPool (K : PySem.W.Frag) : Sp := fun vs H Q _ => ∃ (l : Addr) (ns : List Int), vs = [.ref l] ∧ SqL K H l (ns.map V.int) ∧ ns.length ≤ 63 ∧ ∀ H' a, Same H H' → Pool H' a 0 → Q (.ref a.p) H'
theorem ok_pool {f : Addr} {fd : FuncData} (F : Fun K "_law_pool" "_law_pool" s_law_pool f fd) : FnOk P w K mg base CX0 1 f fd ["_law_script"] (spPool K) := by
  refine F.ok sc_law_pool (fun vs H Q E h => ?_) (fun cdv A outer s H vs Q E hr h => ?_)
  · obtain ⟨l, ns, rfl, _⟩ := h
    rfl
  · obtain ⟨l, ns, rfl, hS, hlen, q⟩ := h
    refine ⟨_, (pss_cons (ps_setLc (i := 1) (own := [("_law_cell", 2)]) (g := gName 2) (by rfl) sc_law_pool.nd rfl rfl (sw_true rfl rfl rfl (by decide +kernel)) (pi_list (pv 0)) (blkOk_by (own := [("_law_cell", 2)]) (N := ["_law_script", "_law_great", "_law_cell"]) (sc := defScope s_law_pool) (by decide +kernel)) (fun _ _ _ _ _ => (pg_name (i := 2) sc_law_pool.nd rfl (.inl rfl))) (fun _ _ _ _ _ => (pts_one (pt_cmpR op_ge (pv 2) (pe_op op_pow pe_int pe_int) (nomark _)))) (fun _ _ _ _ _ => (pv 2)))
      (pss_one (ps_ret (pe_lst (pa_cons (pv 1) (pa_cons (pe_lc (own := [("_law_cell", 2)]) (g := gName 2) rfl sc_law_pool.nd (pi_list (pv 0)) (blkOk_by (own := [("_law_cell", 2)]) (N := ["_law_script", "_law_great", "_law_cell"]) (sc := defScope s_law_pool) (by decide +kernel)) (fun _ _ _ _ _ => (pg_name (i := 2) sc_law_pool.nd rfl (.inl rfl))) (fun _ _ _ _ _ => (pts_one (pt_cmpR op_lt (pv 2) (pe_op op_pow pe_int pe_int) (nomark _)))) (fun _ _ _ _ _ => (pv 2))) (pa_cons pe_int (pa_cons pe_int pa_nil)))))))), ?_⟩
    refine ⟨_, rfl, l, rfl, ⟨_, hS⟩, fun D hD => lc_listS (K := K) (a := l) (xs := ns.map V.int) (fun i acc => ∃ gs : List Int, acc = gs.map V.int) hS hD (by rw [List.length_map]; omega) ⟨[], rfl⟩ (fun _ => rfl) ?_ ?_⟩
    · intro i x H1 acc hx s1 ⟨gs, hg⟩ _ N1 N2 k1 k2
      obtain ⟨z, hz, rfl⟩ := map_get hx
      refine ⟨_, rfl, _, _, rfl, rfl, ⟨by decide, by decide, by decide⟩, _, _, rfl, rfl, _, rfl, ite2 (fun e => ?_) (fun e => ?_)⟩
      · exact ⟨_, rfl, k1 _ _ (Same.refl _) ⟨gs ++ [z], by rw [hg, List.map_append]; rfl⟩⟩
      · exact k2 _ (Same.refl _) ⟨gs, hg⟩
    · intro H1 acc s1 hD1 la ⟨gs, hg⟩
      subst hg
      have hS1 : SqL K H1 l (ns.map V.int) := s1.seq hS
      refine ⟨_, rfl, _, rfl, l, rfl, ⟨_, hS1⟩, fun D2 hD2 => lc_listS (K := K) (a := l) (xs := ns.map V.int) (fun i acc => ∃ gs : List Int, acc = gs.map V.int) hS1 hD2 (by rw [List.length_map]; omega) ⟨[], rfl⟩ (fun _ => rfl) ?_ ?_⟩
      · intro i x H2 acc hx s2 ⟨gs, hg⟩ _ N1 N2 k1 k2
        obtain ⟨z, hz, rfl⟩ := map_get hx
        refine ⟨_, rfl, _, _, rfl, rfl, ⟨by decide, by decide, by decide⟩, _, _, rfl, rfl, _, rfl, ite2 (fun e => ?_) (fun e => ?_)⟩
        · exact ⟨_, rfl, k1 _ _ (Same.refl _) ⟨gs ++ [z], by rw [hg, List.map_append]; rfl⟩⟩
        · exact k2 _ (Same.refl _) ⟨gs, hg⟩
      · intro H2 acc s2 hD2' la2 ⟨ss, hs⟩
        subst hs
        refine ⟨by show 4 ≤ sizeLine; decide, fun p hp => q _ ⟨p, D, D2⟩ ((s1.trans s2).trans (same_upd hp)) ⟨gs, ss, 5, 0, upd_same, ?_, ?_, ?_, ?_, by decide, by decide, by decide, by decide, ?_⟩⟩
        · show upd H2 p _ D = _
          rw [upd_ne (ne_of_none (s2 _ _ hD1) hp)]
          exact s2 _ _ hD1
        · show upd H2 p _ D2 = _
          rw [upd_ne (ne_of_none hD2' hp)]
          exact hD2'
        · rw [List.length_map, List.length_map] at la
          omega
        · rw [List.length_map, List.length_map] at la2
          omega
        · exact (ne_of_none hD1 hD2).symm
def spDraw : Sp := fun vs H Q _ => ∃ (a : PA) (c : Nat) (m : Int), vs = [.ref a.p, .int m] ∧ Pool H a c ∧ c < 1000000 ∧ 0 < m ∧ m < 1073741824 ∧
  ∀ H' r, 0 ≤ r → r < m → Pool H' a (c + 1) → Kp a H H' → Q (.int r) H'
theorem ok_draw {f : Addr} {fd : FuncData} (F : Fun K "_law_draw" "_law_draw" s_law_draw f fd) (T : Bi mg) : FnOk P w K mg base CX0 1 f fd ["_law_pool_here", "_law_many"] spDraw := by
  refine F.ok sc_law_draw (fun vs H Q E h => ?_) (fun cdv A outer s H vs Q E hr h => ?_)
  · obtain ⟨a, c, m, rfl, _⟩ := h
    rfl
  · obtain ⟨⟨p, g, s⟩, c, m, rfl, PP, hc, hm0, hm1, q⟩ := h
    obtain ⟨gs, ss, st, ct, a1, a2, a3, a4, a5, a6, a7, a8, a9, a10⟩ := PP.ex
    have npg : p ≠ g := ne_of a1 a2 (by intro q; have := HO.lst.inj q; cases gs <;> cases this)
    have nps : p ≠ s := ne_of a1 a3 (by intro q; have := HO.lst.inj q; cases ss <;> cases this)
    refine ⟨_, (pss_cons (ps_if (pt_cmpR op_gt (pe_callB call_len_seq (by rfl) T.len PySem.boot_len (pa_cons (pe_ix ix_list (pv 0) pe_int (fun _ _ => rfl)) pa_nil)) pe_int (nomark _))
        (pss_cons (ps_set (i := 2) sc_law_draw.nd rfl (.inl rfl) (pe_ix ix_list (pe_ix ix_list (pv 0) pe_int (fun _ _ => rfl)) pe_int (fun _ _ => rfl)))
        (pss_cons (ps_asg (pe_op op_fdiv (pv 2) (pv 1)) (pg_sub (pe_ix ix_list (pv 0) pe_int (fun _ _ => rfl)) pe_int set_list))
        (pss_cons (ps_if (pt_cmpR op_eq (pe_op op_fdiv (pv 2) (pv 1)) pe_int (nomark _))
          (pss_one (ps_expr (pe_bm PySem.F.plainAttrs_list PySem.F.slot_list_pop PySem.F.type_list_pop mt_popAt (pe_ix ix_list (pv 0) pe_int (fun _ _ => rfl)) (pa_cons pe_int pa_nil))))
          pss_nil)
        (pss_one (ps_ret (pe_op op_mod (pv 2) (pv 1)))))))
        pss_nil)
      (pss_cons (ps_asg (pe_op op_add (pe_ix ix_list (pv 0) pe_int (fun _ _ => rfl)) pe_int) (pg_sub (pv 0) pe_int set_list))
      (pss_cons (ps_set (i := 2) sc_law_draw.nd rfl (.inl rfl) pe_int)
      (pss_cons (ps_if (pt_cmpR op_gt (pe_callB call_len_seq (by rfl) T.len PySem.boot_len (pa_cons (pe_ix ix_list (pv 0) pe_int (fun _ _ => rfl)) pa_nil)) pe_int (nomark _))
        (pss_one (ps_set (i := 2) sc_law_draw.nd rfl (.inl rfl) (pe_ix ix_list (pe_ix ix_list (pv 0) pe_int (fun _ _ => rfl)) (pe_op op_mod (pe_ix ix_list (pv 0) pe_int (fun _ _ => rfl)) (pe_callB call_len_seq (by rfl) T.len PySem.boot_len (pa_cons (pe_ix ix_list (pv 0) pe_int (fun _ _ => rfl)) pa_nil))) (fun _ _ => rfl))))
        pss_nil)
      (pss_cons (ps_set (i := 2) sc_law_draw.nd rfl (.inl rfl) (pe_op op_mul (pe_op op_mod (pv 2) pe_int) (pe_op op_add (pe_op op_mul (pe_ix ix_list (pv 0) pe_int (fun _ _ => rfl)) (pe_ix ix_list (pv 0) pe_int (fun _ _ => rfl))) pe_int)))
      (pss_cons (ps_asg (pe_op op_mod (pe_op op_add (pe_op op_add (pe_op op_mul (pe_ix ix_list (pv 0) pe_int (fun _ _ => rfl)) pe_int) (pv 2)) (pe_op op_mul pe_int (pe_ix ix_list (pv 0) pe_int (fun _ _ => rfl)))) pe_int) (pg_sub (pv 0) pe_int set_list))
      (pss_one (ps_ret (pe_op op_mod (pe_op op_fdiv (pe_op op_mod (pe_op op_pow (pe_ix ix_list (pv 0) pe_int (fun _ _ => rfl)) pe_int) pe_int) pe_int) (pv 1)))))))))), ?_⟩
    -- if len(pool[0]) > 0
    refine ⟨_, rfl, p, _, _, _, rfl, rfl, SqL.of a1, at_of (j := 0) rfl rfl, g, _, rfl, .inl (SqL.of a2), _, _, rfl, rfl, _, rfl, ite2 (fun e => ?_) (fun e => ?_)⟩
    · obtain ⟨z, r, rfl⟩ : ∃ z r, gs = z :: r := by
        cases gs with
        | nil => exact absurd e (by decide)
        | cons z r => exact ⟨z, r, rfl⟩
      refine ⟨_, rfl, p, _, _, _, rfl, rfl, SqL.of a1, at_of (j := 0) rfl rfl, g, _, _, .int z, rfl, rfl, SqL.of a2, at_of (j := 0) rfl rfl, ?_⟩
      have a1' : ∀ o, upd H g o p = some (.lst [.ref g, .ref s, .int st, .int ct]) := fun o => by
        rw [upd_ne npg]
        exact a1
      have a3' : ∀ o, upd H g o s = some (.lst (ss.map V.int)) := fun o => by
        rw [upd_ne a10]
        exact a3
      refine ⟨_, rfl, _, rfl, _, _, rfl, rfl, ⟨hm0, hm1⟩, _, rfl, p, _, _, _, rfl, rfl, SqL.of a1, at_of (j := 0) rfl rfl, g, _, 0, 0, rfl, rfl, a2, ixN0 (by simp), ?_⟩
      refine ⟨_, rfl, _, rfl, _, _, rfl, rfl, ⟨hm0, hm1⟩, rfl, _, rfl, ite2 (fun e0 => ?_) (fun e0 => ?_)⟩
      · refine ⟨_, rfl, p, _, _, _, rfl, rfl, SqL.of (a1' _), at_of (j := 0) rfl rfl, .inl ⟨rfl, _, SqL.of upd_same⟩, g, _, 0, 0, _, rfl, rfl, upd_same, by decide, by decide, six0 (by simp), rfl, ?_⟩
        refine ⟨_, rfl, _, rfl, _, _, rfl, rfl, hm0, ?_⟩
        refine q _ _ (Int.emod_nonneg _ (by omega)) (Int.emod_lt_of_pos _ hm0) ⟨r, ss, st, ct, ?_, ?_, ?_, ?_, a5, a6, a7, a8, by omega, a10⟩ (fun b o hb n => ?_)
        · rw [upd_upd]
          exact a1' _
        · show upd _ g _ g = _
          rw [upd_same]
          rfl
        · rw [upd_upd]
          exact a3' _
        · simp at a4
          omega
        · rw [upd_ne n.2.1, upd_ne n.2.1]
          exact hb
      · refine ⟨_, rfl, _, rfl, _, _, rfl, rfl, hm0, ?_⟩
        refine q _ _ (Int.emod_nonneg _ (by omega)) (Int.emod_lt_of_pos _ hm0) ⟨(z / m) :: r, ss, st, ct, a1' _, ?_, a3' _, ?_, a5, a6, a7, a8, by omega, a10⟩ (fun b o hb n => ?_)
        · show upd _ g _ g = _
          rw [upd_same]
          rfl
        · simpa using a4
        · rw [upd_ne n.2.1]
          exact hb
    · -- pool[3] = pool[3] + 1
      refine ⟨_, rfl, p, _, _, _, rfl, rfl, SqL.of a1, at_of (j := 3) rfl rfl, _, _, rfl, rfl, _, rfl, p, _, 3, 3, rfl, rfl, a1, rfl, ?_⟩
      have w1 : upd H p (.lst [.ref g, .ref s, .int st, .int (ct + 1)]) p = some (.lst [.ref g, .ref s, .int st, .int (ct + 1)]) := upd_same
      have w2 : ∀ o, upd H p o g = some (.lst (gs.map V.int)) := fun o => by
        rw [upd_ne npg.symm]
        exact a2
      have w3 : ∀ o, upd H p o s = some (.lst (ss.map V.int)) := fun o => by
        rw [upd_ne nps.symm]
        exact a3
      -- cell = 0; if len(pool[1]) > 0
      refine ⟨_, rfl, p, _, _, _, rfl, rfl, SqL.of w1, at_of (j := 1) rfl rfl, s, _, rfl, .inl (SqL.of (w3 _)), _, _, rfl, rfl, _, rfl, ite2 (fun e => ?_) (fun e => ?_)⟩
      · have l0 : 0 < ss.length := by
          have := of_decide_eq_true e
          simpa using this
        have l1 : 0 ≤ (ct + 1) % (ss.length : Int) := Int.emod_nonneg _ (by omega)
        have l2 : (ct + 1) % (ss.length : Int) < ss.length := Int.emod_lt_of_pos _ (by omega)
        obtain ⟨j, ej⟩ : ∃ j : Nat, (ct + 1) % (ss.length : Int) = (j : Int) := ⟨_, (Int.toNat_of_nonneg l1).symm⟩
        have hj : j < ss.length := by omega
        have gj : (ss.map V.int)[j]? = some (.int ss[j]) := get_map (List.getElem?_eq_getElem hj)
        refine ⟨_, rfl, p, _, _, _, rfl, rfl, SqL.of w1, at_of (j := 1) rfl rfl, _, rfl, p, _, _, _, rfl, rfl, SqL.of w1, at_of (j := 3) rfl rfl, _, rfl, p, _, _, _, rfl, rfl, SqL.of w1, at_of (j := 1) rfl rfl, s, _, rfl, .inl (SqL.of (w3 _)), _, _, rfl, rfl, (by rw [List.length_map]; omega),
          s, _, _, _, rfl, rfl, SqL.of (w3 _), at_of (by rw [List.length_map]; exact ej) gj, ?_⟩
        generalize ss[j] = y
        refine ⟨_, rfl, _, _, rfl, rfl, (by show (0 : Int) < _; decide), _, rfl, p, _, _, _, rfl, rfl, SqL.of w1, at_of (j := 3) rfl rfl, _, rfl, p, _, _, _, rfl, rfl, SqL.of w1, at_of (j := 3) rfl rfl, _, _, rfl, rfl, .inl ⟨by omega, by omega⟩, _, _, rfl, rfl, _, _, rfl, rfl, .inl ⟨by omega, by omega⟩, ?_⟩
        refine ⟨_, rfl, p, _, _, _, rfl, rfl, SqL.of w1, at_of (j := 2) rfl rfl, _, _, rfl, rfl, .inl ⟨by omega, by omega⟩, _, rfl, _, _, rfl, rfl, _, rfl, p, _, _, _, rfl, rfl, SqL.of w1, at_of (j := 3) rfl rfl, _, _, rfl, rfl, .inl ⟨by omega, by omega⟩, _, _, rfl, rfl, _, _, rfl, rfl, (by show (0 : Int) < _; decide), _, rfl, p, _, 2, 2, rfl, rfl, w1, rfl, ?_⟩
        dsimp only [List.set]
        generalize hz : ((st * 48271 + y % 2147483629 * ((ct + 1) * (ct + 1) + 1) + 97 * (ct + 1)) % 2147483647 : Int) = z
        have hz0 : 0 ≤ z := by omega
        have hz1 : z < 2147483647 := by omega
        have w5 : upd (upd H p (.lst [.ref g, .ref s, .int st, .int (ct + 1)])) p (.lst [.ref g, .ref s, .int z, .int (ct + 1)]) p = some (.lst [.ref g, .ref s, .int z, .int (ct + 1)]) := upd_same
        refine ⟨_, rfl, p, _, _, _, rfl, rfl, SqL.of w5, at_of (j := 2) rfl rfl, _, _, rfl, rfl, ⟨by decide, by decide, by omega⟩, _, _, rfl, rfl, (by show (0 : Int) < _; decide), _, _, rfl, rfl, ⟨by decide, by decide⟩, _, rfl, _, _, rfl, rfl, hm0, ?_⟩
        refine q _ _ (Int.emod_nonneg _ (by omega)) (Int.emod_lt_of_pos _ hm0) ⟨gs, ss, z, ct + 1, w5, ?_, ?_, a4, a5, hz0, hz1, by omega, by omega, a10⟩ (fun b o hb n => ?_)
        · rw [upd_upd]
          exact w2 _
        · rw [upd_upd]
          exact w3 _
        · rw [upd_upd, upd_ne n.1]
          exact hb
      · refine ⟨_, rfl, _, _, rfl, rfl, (by show (0 : Int) < _; decide), _, rfl, p, _, _, _, rfl, rfl, SqL.of w1, at_of (j := 3) rfl rfl, _, rfl, p, _, _, _, rfl, rfl, SqL.of w1, at_of (j := 3) rfl rfl, _, _, rfl, rfl, .inl ⟨by omega, by omega⟩, _, _, rfl, rfl, _, _, rfl, rfl, .inl ⟨by omega, by omega⟩, ?_⟩
        refine ⟨_, rfl, p, _, _, _, rfl, rfl, SqL.of w1, at_of (j := 2) rfl rfl, _, _, rfl, rfl, .inl ⟨by omega, by omega⟩, _, rfl, _, _, rfl, rfl, _, rfl, p, _, _, _, rfl, rfl, SqL.of w1, at_of (j := 3) rfl rfl, _, _, rfl, rfl, .inl ⟨by omega, by omega⟩, _, _, rfl, rfl, _, _, rfl, rfl, (by show (0 : Int) < _; decide), _, rfl, p, _, 2, 2, rfl, rfl, w1, rfl, ?_⟩
        dsimp only [List.set]
        generalize hz : ((st * 48271 + 0 % 2147483629 * ((ct + 1) * (ct + 1) + 1) + 97 * (ct + 1)) % 2147483647 : Int) = z
        have hz0 : 0 ≤ z := by omega
        have hz1 : z < 2147483647 := by omega
        have w5 : upd (upd H p (.lst [.ref g, .ref s, .int st, .int (ct + 1)])) p (.lst [.ref g, .ref s, .int z, .int (ct + 1)]) p = some (.lst [.ref g, .ref s, .int z, .int (ct + 1)]) := upd_same
        refine ⟨_, rfl, p, _, _, _, rfl, rfl, SqL.of w5, at_of (j := 2) rfl rfl, _, _, rfl, rfl, ⟨by decide, by decide, by omega⟩, _, _, rfl, rfl, (by show (0 : Int) < _; decide), _, _, rfl, rfl, ⟨by decide, by decide⟩, _, rfl, _, _, rfl, rfl, hm0, ?_⟩
        refine q _ _ (Int.emod_nonneg _ (by omega)) (Int.emod_lt_of_pos _ hm0) ⟨gs, ss, z, ct + 1, w5, ?_, ?_, a4, a5, hz0, hz1, by omega, by omega, a10⟩ (fun b o hb n => ?_)
        · rw [upd_upd]
          exact w2 _
        · rw [upd_upd]
          exact w3 _
        · rw [upd_upd, upd_ne n.1]
          exact hb
end

def wordsL : List Str := ["yes", "no", "not", "and", "or", "step", "some", "all", "next", "once", "ever", "until", "unless"]
def lettersS : Str := "abcdefghijklmnopqrstuvwxyz"
structure Wd (K : PySem.W.Frag) (mg : Str → Option Value) where
  aW : Addr
  uL : Value
  gWORDS : mg "WORDS" = some (.ref aW)
  rWORDS : RelV (.ref aW) (.ref aW)
  sW : ∀ H, SqT K H aW (wordsL.map V.str)
  gLETTERS : mg "LETTERS" = some uL
  rLETTERS : RelV (.str lettersS) uL
/-- a text that is_name takes -/
structure GoodName (z : Str) : Prop where
  lo : 1 ≤ z.length
  hi : z.length ≤ 8
  nw : z ∉ wordsL
  al : ∀ c ∈ z.cps.toList, c ∈ lettersS.cps.toList
theorem flat_str (xs : List Str) : (xs.map V.str).all flatV = true := by
  rw [List.all_map, List.all_eq_true]
  exact fun _ _ => rfl
theorem flat_int (xs : List Int) : (xs.map V.int).all flatV = true := by
  rw [List.all_map, List.all_eq_true]
  exact fun _ _ => rfl
theorem inV_str (z : Str) (xs : List Str) : inV (.str z) (xs.map V.str) = decide (z ∈ xs) := by
  unfold inV
  rw [List.any_map]
  by_cases h : z ∈ xs
  · rw [decide_eq_true h, List.any_eq_true]
    exact ⟨z, h, by simp [Function.comp, eqV]⟩
  · rw [decide_eq_false h, List.any_eq_false]
    intro y hy q
    exact h (by simp [Function.comp, eqV] at q; rw [← q]; exact hy)
theorem inV_int (z : Int) (xs : List Int) : inV (.int z) (xs.map V.int) = decide (z ∈ xs) := by
  unfold inV
  rw [List.any_map]
  by_cases h : z ∈ xs
  · rw [decide_eq_true h, List.any_eq_true]
    exact ⟨z, h, by simp [Function.comp, eqV]⟩
  · rw [decide_eq_false h, List.any_eq_false]
    intro y hy q
    exact h (by simp [Function.comp, eqV] at q; rw [← q]; exact hy)

/-! ### rising rows -/
/-- a rising row of numbers below many -/
def RiseI (many : Int) (ns : List Int) : Prop := ns.Pairwise (· < ·) ∧ ∀ n ∈ ns, 0 ≤ n ∧ n < many
theorem rise_len {many : Int} {ns : List Int} (h : RiseI many ns) (hm : 0 ≤ many) : (ns.length : Int) ≤ many := by
  have key : ∀ (ns : List Int) (lo : Int), ns.Pairwise (· < ·) → (∀ n ∈ ns, lo ≤ n ∧ n < many) → lo ≤ many → (ns.length : Int) ≤ many - lo := by
    intro ns
    induction ns with
    | nil =>
      intro lo _ _ h
      show (0 : Int) ≤ _
      omega
    | cons x r ih =>
      intro lo hp hb hl
      obtain ⟨p1, p2⟩ := List.pairwise_cons.mp hp
      have b1 := hb x List.mem_cons_self
      have := ih (x + 1) p2 (fun n hn => ⟨by have := p1 n hn; omega, (hb n (List.mem_cons_of_mem _ hn)).2⟩) (by omega)
      rw [List.length_cons]
      omega
  have := key ns 0 h.1 h.2 hm
  omega
/-- a rising row of names -/
def RiseS (zs : List Str) : Prop := zs.Pairwise (fun x y => x.cps.toList < y.cps.toList) ∧ ∀ z ∈ zs, GoodName z

/-! ### fairtrees.machines, on what it takes -/
structure MachAt (K : PySem.W.Frag) (H : Hp) (m : Addr) (steps : List (List Int)) (marks : List (List Str)) : Prop where
  ex : ∃ (s k : Addr) (sa ka : List Addr), SqT K H m [.ref s, .ref k] ∧ SqT K H s (sa.map V.ref) ∧ SqT K H k (ka.map V.ref) ∧
    Each (fun a ns => SqT K H a (ns.map V.int)) sa steps ∧ Each (fun a zs => SqT K H a (zs.map V.str)) ka marks
structure GoodMach (steps : List (List Int)) (marks : List (List Str)) : Prop where
  len : steps.length = marks.length
  lo : 1 ≤ steps.length
  hi : steps.length ≤ 40
  st : ∀ r ∈ steps, RiseI steps.length r
  mr : ∀ r ∈ marks, RiseS r ∧ r.length ≤ 8
theorem MachAt.imm {K : PySem.W.Frag} {H H' : Hp} {m : Addr} {steps : List (List Int)} {marks : List (List Str)} (M : MachAt K H m steps marks) (e : Imm H H') : MachAt K H' m steps marks := by
  obtain ⟨s, k, sa, ka, h1, h2, h3, h4, h5⟩ := M.ex
  exact ⟨s, k, sa, ka, e.sq h1, e.sq h2, e.sq h3, h4.imp fun _ _ h => e.sq h, h5.imp fun _ _ h => e.sq h⟩
structure WishAt (K : PySem.W.Frag) (H : Hp) (t : Addr) (ws : List (Str × Str)) : Prop where
  ex : ∃ wa : List Addr, SqT K H t (wa.map V.ref) ∧ Each (fun a (x : Str × Str) => SqT K H a [.str x.1, .str x.2]) wa ws
theorem WishAt.imm {K : PySem.W.Frag} {H H' : Hp} {t : Addr} {ws : List (Str × Str)} (M : WishAt K H t ws) (e : Imm H H') : WishAt K H' t ws := by
  obtain ⟨wa, h1, h2⟩ := M.ex
  exact ⟨wa, e.sq h1, h2.imp fun _ _ h => e.sq h⟩
theorem ref_get {as : List Addr} {i : Nat} {v : V} (h : (as.map V.ref)[i]? = some v) : ∃ a, as[i]? = some a ∧ v = .ref a := map_get h
theorem dec_str (x y : Str) : decide (V.str x = V.str y) = decide (x = y) := by
  by_cases h : x = y
  · rw [decide_eq_true h, decide_eq_true (by rw [h])]
  · rw [decide_eq_false h, decide_eq_false fun q => h (V.str.inj q)]
theorem dec_int (x y : Int) : decide (V.int x = V.int y) = decide (x = y) := by
  by_cases h : x = y
  · rw [decide_eq_true h, decide_eq_true (by rw [h])]
  · rw [decide_eq_false h, decide_eq_false fun q => h (V.int.inj q)]
/-- the standings that bear a name -/
def bearersOf (marks : List (List Str)) (z : Str) (n : Nat) : List Int := ((List.range n).filter fun j => decide (z = Str.ofString "") || decide (z ∈ marks.getD j [])).map Int.ofNat
theorem bearersOf_yes {marks : List (List Str)} {z : Str} {n : Nat} (h : (decide (z = Str.ofString "") || decide (z ∈ marks.getD n [])) = true) : bearersOf marks z (n + 1) = bearersOf marks z n ++ [(n : Int)] := by
  unfold bearersOf
  rw [List.range_succ, List.filter_append, List.map_append, List.filter_cons, if_pos h] <;> rfl
theorem bearersOf_no {marks : List (List Str)} {z : Str} {n : Nat} (h : (decide (z = Str.ofString "") || decide (z ∈ marks.getD n [])) = false) : bearersOf marks z (n + 1) = bearersOf marks z n := by
  unfold bearersOf
  rw [List.range_succ, List.filter_append, List.map_append, List.filter_cons, if_neg (by rw [h]; decide)]
  show _ ++ [] = _
  rw [List.append_nil]

/-! ### _law_name, _law_names -/
theorem letters_eq : lettersS.cps.toList = List.range' 97 26 := by decide +kernel
theorem letters_at {j : Nat} (hj : j < 26) : lettersS.cps.toList[j]? = some (97 + j) := by
  rw [letters_eq, List.getElem?_range' hj]
  simp
theorem letters_len : lettersS.length ≤ 100000 := by
  show lettersS.cps.size ≤ 100000
  rw [← Array.length_toList, letters_eq]
  simp
theorem letters_mem {j : Nat} (hj : j < 26) : 97 + j ∈ lettersS.cps.toList := List.mem_of_getElem? (letters_at hj)
def Alpha (z : Str) : Prop := ∀ c ∈ z.cps.toList, c ∈ lettersS.cps.toList
theorem app_list (x y : Str) : (x ++ y).cps.toList = x.cps.toList ++ y.cps.toList := by
  show (x.cps ++ y.cps).toList = _
  rw [Array.toList_append]
theorem app_len (x y : Str) : (x ++ y).length = x.length + y.length := by
  show (x ++ y).cps.size = x.cps.size + y.cps.size
  rw [← Array.length_toList, ← Array.length_toList, ← Array.length_toList, app_list, List.length_append]
theorem alpha_app {x : Str} {j : Nat} (h : Alpha x) (hj : j < 26) : Alpha (x ++ ⟨#[97 + j]⟩) := fun c hc => by
  rw [app_list] at hc
  rcases List.mem_append.mp hc with hc | hc
  · exact h c hc
  · have e : c = 97 + j := by simpa using hc
    rw [e]
    exact letters_mem hj
theorem pigeon {α : Type} [BEq α] [LawfulBEq α] : ∀ (l m : List α), l.Nodup → (∀ x ∈ l, x ∈ m) → l.length ≤ m.length
  | [], _, _, _ => Nat.zero_le _
  | x :: r, m, nd, h => by
    obtain ⟨n1, n2⟩ := List.nodup_cons.mp nd
    have hx := h x List.mem_cons_self
    have := pigeon r (m.erase x) n2 fun y hy => (List.mem_erase_of_ne (fun q => n1 (by rw [← q]; exact hy))).mpr (h y (List.mem_cons_of_mem _ hy))
    rw [List.length_erase_of_mem hx] at this
    have : 0 < m.length := List.length_pos_of_mem hx
    rw [List.length_cons]
    omega
/-- what the loop tries at its k-th turn -/
def cand (nm : Str) (last k : Nat) : Str := nm ++ ⟨#[97 + (last + k) % 26]⟩
theorem cand_inj {nm : Str} {last j k : Nat} (hj : j < 26) (hk : k < 26) (h : cand nm last j = cand nm last k) : j = k := by
  have e : (cand nm last j).cps.toList = (cand nm last k).cps.toList := by rw [h]
  unfold cand at e
  rw [app_list, app_list] at e
  have e2 := List.append_cancel_left e
  simp at e2
  omega
theorem cand_some {nm : Str} {last : Nat} {words taken : List Str} (hw : words.length + taken.length < 26) (h : ∀ j, j < 26 → cand nm last j ∈ words ∨ cand nm last j ∈ taken) : False := by
  have nd : ((List.range 26).map (cand nm last)).Nodup := by
    refine List.pairwise_map.mpr ((List.pairwise_lt_range (n := 26)).imp_of_mem fun ha hb hab e => ?_)
    have := cand_inj (List.mem_range.mp ha) (List.mem_range.mp hb) e
    omega
  have := pigeon _ (words ++ taken) nd fun x hx => by
    obtain ⟨j, hj, rfl⟩ := List.mem_map.mp hx
    exact List.mem_append.mpr (h j (List.mem_range.mp hj))
  rw [List.length_map, List.length_range, List.length_append] at this
  omega
abbrev s_law_name : Stmt := topS 8
theorem sc_law_name : FnScope ["_law_pool_here", "_law_start", "_law_taken", "_law_letters", "_law_name_here", "_law_k", "_law_last", "_law_words", "_law_found"] ["_law_pool_here", "_law_start", "_law_taken"] (defScope s_law_name) := ⟨rfl, rfl, rfl, by decide +kernel, rfl, by decide +kernel, by decide +kernel⟩
abbrev s_law_names : Stmt := topS 9
theorem sc_law_names : FnScope ["_law_pool_here", "_law_many", "_law_letters", "_law_start", "_law_k", "_law_names_here"] ["_law_pool_here", "_law_many"] (defScope s_law_names) := ⟨rfl, rfl, rfl, by decide +kernel, rfl, by decide +kernel, by decide +kernel⟩
section
variable {P : Program} {w : World} {K : PySem.W.Frag} {mg : Str → Option Value} {base : Heap}
def spLName : Sp := fun vs H Q _ => ∃ (a : PA) (c : Nat) (start : Str) (t : Addr) (taken : List Str), vs = [.ref a.p, .str start, .ref t] ∧ Pool H a c ∧ c < 900000 ∧ H t = some (.lst (taken.map V.str)) ∧ Off a t ∧ Alpha start ∧ start.length ≤ 4 ∧ taken.length ≤ 12 ∧
  ∀ H' z, GoodName z → z ∉ taken → Pool H' a (c + 5) → Kp a H H' → Q (.str z) H'
theorem ok_lname {f : Addr} {fd : FuncData} (F : Fun K "_law_name" "_law_name" s_law_name f fd) (T : Bi mg) (c_law_draw : Cal P w K mg base 1 "_law_draw" ["_law_pool_here", "_law_many"] spDraw) : FnOk P w K mg base CX0 2 f fd ["_law_pool_here", "_law_start", "_law_taken"] spLName := by
  refine F.ok sc_law_name (fun vs H Q E h => ?_) (fun cdv A outer s H vs Q E hr h => ?_)
  · obtain ⟨a, c, start, t, taken, rfl, _⟩ := h
    rfl
  · obtain ⟨a, c, start, t, taken, rfl, PP, hc, ht, ot, al, sl, tl, q⟩ := h
    refine ⟨_, (pss_cons (ps_set (i := 3) sc_law_name.nd rfl (.inl rfl) pe_str)
      (pss_cons (ps_set (i := 4) sc_law_name.nd rfl (.inl rfl) (pv 1))
      (pss_cons (ps_for PassesOwn.never rfl (pi_range1 (by rfl) T.range (pa_cons (pe_call c_law_draw.G hr (by rfl) c_law_draw.g c_law_draw.kp c_law_draw.b .nil pass0 (pa_cons (pv 0) (pa_cons pe_int pa_nil))) pa_nil)) (pg_name (i := 5) sc_law_name.nd rfl (.inl rfl))
        (pss_one (ps_set (i := 4) sc_law_name.nd rfl (.inl rfl) (pe_op op_add_str (pv 4) (pe_ix ix_str (pv 3) (pe_call c_law_draw.G hr (by rfl) c_law_draw.g c_law_draw.kp c_law_draw.b .nil pass0 (pa_cons (pv 0) (pa_cons pe_int pa_nil))) (fun _ _ => rfl))))))
      (pss_cons (ps_set (i := 6) sc_law_name.nd rfl (.inl rfl) (pe_call c_law_draw.G hr (by rfl) c_law_draw.g c_law_draw.kp c_law_draw.b .nil pass0 (pa_cons (pv 0) (pa_cons pe_int pa_nil))))
      (pss_cons (ps_set (i := 7) sc_law_name.nd rfl (.inl rfl) (pe_lst (pa_cons pe_str (pa_cons pe_str (pa_cons pe_str (pa_cons pe_str (pa_cons pe_str (pa_cons pe_str (pa_cons pe_str (pa_cons pe_str (pa_cons pe_str (pa_cons pe_str (pa_cons pe_str (pa_cons pe_str (pa_cons pe_str pa_nil)))))))))))))))
      (pss_cons (ps_for PassesOwn.never rfl (pi_range1 (by rfl) T.range (pa_cons pe_int pa_nil)) (pg_name (i := 5) sc_law_name.nd rfl (.inl rfl))
        (pss_cons (ps_set (i := 8) sc_law_name.nd rfl (.inl rfl) (pe_op op_add_str (pv 4) (pe_ix ix_str (pv 3) (pe_op op_mod (pe_op op_add (pv 6) (pv 5)) pe_int) (fun _ _ => rfl))))
        (pss_one (ps_if (PW.pt (pw_and (pt_cmpR op_notIn_seq (pv 8) (pv 7) (by rfl)) (pw_and1 (pt_cmpR op_notIn_seq (pv 8) (pv 2) (by rfl)))))
          (pss_one (ps_ret (pv 8)))
          pss_nil))))
      (pss_one (ps_ret (pe_op op_add_str (pv 4) pe_str))))))))), ?_⟩
    -- for k in range(draw(pool, 4))
    refine ⟨_, rfl, _, rfl, a, c, 4, rfl, PP, by omega, by decide, by decide, fun H1 r r0 r1 P1 k1 => ⟨r, rfl, by omega, by omega, for_range (lo := 0) (n := r.toNat) (fun i σ H' => ∃ nm y,
      σ = [some (.ref a.p), some (.str start), some (.ref t), some (.str lettersS), some (.str nm), y, none, none, none] ∧ Alpha nm ∧ nm.length = start.length + i ∧ Pool H' a (c + 1 + i) ∧ Kp a H H')
      ⟨start, none, rfl, al, rfl, P1, k1⟩ ?_ ?_⟩⟩
    · rintro i σ H2 hi ⟨nm, y, rfl, an, ln, P2, k2⟩
      refine ⟨_, rfl, _, rfl, _, rfl, a, _, 26, rfl, P2, by omega, by decide, by decide, fun H3 r' r0' r1' P3 k3 => ?_⟩
      obtain ⟨j, rfl⟩ : ∃ j : Nat, r' = (j : Int) := ⟨r'.toNat, by omega⟩
      have hj : j < 26 := by omega
      refine ⟨lettersS, _, 97 + j, rfl, rfl, szOk letters_len, atI_nat (letters_at hj), nm, _, rfl, rfl, ?_, ?_⟩
      · show nm.length + 1 ≤ sizeLine
        exact szOk (by omega)
      · refine ⟨nm ++ ⟨#[97 + j]⟩, _, rfl, alpha_app an hj, ?_, ?_, k2.trans k3⟩
        · rw [app_len, ln]
          rfl
        · exact P3
    · rintro σ H2 ⟨nm, y, rfl, an, ln, P2, k2⟩
      -- last = draw(pool, 26); words
      refine ⟨_, rfl, a, _, 26, rfl, P2, by omega, by decide, by decide, fun H3 r' r0' r1' P3 k3 => ?_⟩
      obtain ⟨last, rfl⟩ : ∃ j : Nat, r' = (j : Int) := ⟨r'.toNat, by omega⟩
      refine ⟨by show 13 ≤ sizeLine; decide, fun l hl => ?_⟩
      have hl2 : upd H3 l (.lst (wordsL.map V.str)) l = some (.lst (wordsL.map V.str)) := upd_same
      have ht3 : H3 t = some (.lst (taken.map V.str)) := (k2.trans k3) _ _ ht ot
      have ht4 : ∀ o, upd H3 l o t = some (.lst (taken.map V.str)) := fun o => by
        rw [upd_ne (ne_of_none ht3 hl)]
        exact ht3
      refine ⟨26, rfl, by decide, by decide, for_range (lo := 0) (n := 26) (fun i σ H' => ∃ y z,
        σ = [some (.ref a.p), some (.str start), some (.ref t), some (.str lettersS), some (.str nm), y, some (.int last), some (.ref l), z] ∧ H' = upd H3 l (.lst (wordsL.map V.str)) ∧ ∀ j, j < i → cand nm last j ∈ wordsL ∨ cand nm last j ∈ taken)
        ⟨_, _, rfl, rfl, fun j hj => absurd hj (Nat.not_lt_zero _)⟩ ?_ ?_⟩
      · rintro i σ H' hi ⟨y', z, rfl, rfl, all⟩
        have hm : (last + i) % 26 < 26 := Nat.mod_lt _ (by decide)
        have em : ((last : Int) + (0 + (i : Int))) % 26 = (((last + i) % 26 : Nat) : Int) := by omega
        refine ⟨_, rfl, _, rfl, _, rfl, _, rfl, _, _, rfl, rfl, _, _, rfl, rfl, (by show (0 : Int) < _; decide), lettersS, _, 97 + (last + i) % 26, rfl, rfl, szOk letters_len, (by
          show atI _ (((last : Int) + (0 + (i : Int))) % 26) = _
          rw [em]
          exact atI_nat (letters_at hm)), nm, _, rfl, rfl, ?_, ?_⟩
        · show nm.length + 1 ≤ sizeLine
          exact szOk (by omega)
        · refine ⟨_, rfl, _, rfl, l, _, rfl, .inl (SqL.of hl2), rfl, flat_str _, _, rfl, ?_⟩
          rw [inV_str]
          refine ite2 (fun e => ?_) (fun e => ?_)
          · refine ⟨_, rfl, _, rfl, t, _, rfl, .inl (SqL.of (ht4 _)), rfl, flat_str _, _, rfl, ?_⟩
            rw [inV_str]
            refine ite2 (fun e2 => ?_) (fun e2 => ?_)
            · have n1 : cand nm last i ∉ wordsL := notdec e
              have n2 : cand nm last i ∉ taken := notdec e2
              have lc : (cand nm last i).length = nm.length + 1 := by
                unfold cand
                rw [app_len]
                rfl
              refine ⟨_, rfl, q _ (cand nm last i) ⟨by omega, by omega, n1, alpha_app an hm⟩ n2 ((P3.upd (P3.off hl)).mono (by omega)) ((k2.trans k3).mut ((k2.trans k3).free hl (P3.off hl)))⟩
            · refine ⟨_, _, rfl, rfl, fun j hj => ?_⟩
              by_cases h : j < i
              · exact all j h
              · have e3 : j = i := by omega
                rw [e3]
                exact .inr (dec_of e2)
          · refine iteF ⟨_, _, rfl, rfl, fun j hj => ?_⟩
            by_cases h : j < i
            · exact all j h
            · have e3 : j = i := by omega
              rw [e3]
              exact .inl (dec_of e)
      · rintro σ H' ⟨y', z, rfl, rfl, all⟩
        exact (cand_some (words := wordsL) (by show 13 + taken.length < 26; omega) all).elim
def spLNames : Sp := fun vs H Q _ => ∃ (a : PA) (c : Nat) (n : Nat), vs = [.ref a.p, .int n] ∧ Pool H a c ∧ c < 800000 ∧ n ≤ 12 ∧
  ∀ (H' : Hp) (l : Addr) (zs : List Str), Pool H' a (c + 5 + n * 5) → Kp a H H' → H' l = some (.lst (zs.map V.str)) → Off a l → zs.Nodup → (∀ z ∈ zs, GoodName z) → zs.length = n → Q (.ref l) H'
theorem ok_lnames {f : Addr} {fd : FuncData} (F : Fun K "_law_names" "_law_names" s_law_names f fd) (T : Bi mg) (c_law_draw : Cal P w K mg base 1 "_law_draw" ["_law_pool_here", "_law_many"] spDraw) (c_law_name : Cal P w K mg base 2 "_law_name" ["_law_pool_here", "_law_start", "_law_taken"] spLName) :
    FnOk P w K mg base CX0 3 f fd ["_law_pool_here", "_law_many"] spLNames := by
  refine F.ok sc_law_names (fun vs H Q E h => ?_) (fun cdv A outer s H vs Q E hr h => ?_)
  · obtain ⟨a, c, n, rfl, _⟩ := h
    rfl
  · obtain ⟨a, c, n, rfl, PP, hc, hn, q⟩ := h
    refine ⟨_, (pss_cons (ps_set (i := 2) sc_law_names.nd rfl (.inl rfl) pe_str)
      (pss_cons (ps_set (i := 3) sc_law_names.nd rfl (.inl rfl) pe_str)
      (pss_cons (ps_for PassesOwn.never rfl (pi_range1 (by rfl) T.range (pa_cons (pe_ix ix_list (pe_lst (pa_cons pe_int (pa_cons pe_int (pa_cons pe_int (pa_cons pe_int pa_nil))))) (pe_call c_law_draw.G (hr.mono (by decide)) (by rfl) c_law_draw.g c_law_draw.kp c_law_draw.b .nil pass0 (pa_cons (pv 0) (pa_cons pe_int pa_nil))) (fun _ _ => rfl)) pa_nil)) (pg_name (i := 4) sc_law_names.nd rfl (.inl rfl))
        (pss_one (ps_set (i := 3) sc_law_names.nd rfl (.inl rfl) (pe_op op_add_str (pv 3) (pe_ix ix_str (pv 2) (pe_call c_law_draw.G (hr.mono (by decide)) (by rfl) c_law_draw.g c_law_draw.kp c_law_draw.b .nil pass0 (pa_cons (pv 0) (pa_cons pe_int pa_nil))) (fun _ _ => rfl))))))
      (pss_cons (ps_set (i := 5) sc_law_names.nd rfl (.inl rfl) (pe_lst pa_nil))
      (pss_cons (ps_for PassesOwn.never rfl (pi_range1 (by rfl) T.range (pa_cons (pv 1) pa_nil)) (pg_name (i := 4) sc_law_names.nd rfl (.inl rfl))
        (pss_one (ps_expr (pe_bm PySem.F.plainAttrs_list PySem.F.slot_list_append PySem.F.type_list_append mt_append (pv 5) (pa_cons (pe_call c_law_name.G hr (by rfl) c_law_name.g c_law_name.kp c_law_name.b .nil pass0 (pa_cons (pv 0) (pa_cons (pv 3) (pa_cons (pv 5) pa_nil)))) pa_nil)))))
      (pss_one (ps_ret (pv 5)))))))), ?_⟩
    refine ⟨by show 4 ≤ sizeLine; decide, fun d hd => ⟨_, rfl, a, c, 4, rfl, PP.upd (PP.off hd), by omega, by decide, by decide, fun H1 r r0 r1 P1 k1 => ?_⟩⟩
    have k1' : Kp a H H1 := (skp (same_upd hd)).trans k1
    have hd1 : H1 d = some (.lst [.int 0, .int 0, .int 1, .int 4]) := k1 _ _ upd_same (PP.off hd)
    obtain ⟨v, v0, v1, hv⟩ : ∃ v : Int, 0 ≤ v ∧ v ≤ 4 ∧ atI [V.int 0, .int 0, .int 1, .int 4] r = some (.int v) := by
      have : r = 0 ∨ r = 1 ∨ r = 2 ∨ r = 3 := by omega
      rcases this with rfl | rfl | rfl | rfl
      · exact ⟨0, by decide, by decide, rfl⟩
      · exact ⟨0, by decide, by decide, rfl⟩
      · exact ⟨1, by decide, by decide, rfl⟩
      · exact ⟨4, by decide, by decide, rfl⟩
    refine ⟨d, _, r, .int v, rfl, rfl, SqL.of hd1, hv, v, rfl, by omega, by omega, for_range (lo := 0) (n := v.toNat) (fun i σ H' => ∃ nm y,
      σ = [some (.ref a.p), some (.int n), some (.str lettersS), some (.str nm), y, none] ∧ Alpha nm ∧ nm.length = i ∧ Pool H' a (c + 1 + i) ∧ Kp a H H')
      ⟨Str.ofString "", none, rfl, (fun c hc => absurd hc (by rw [show (Str.ofString "").cps.toList = [] by decide +kernel]; exact List.not_mem_nil)), (by decide +kernel), P1, k1'⟩ ?_ ?_⟩
    · rintro i σ H2 hi ⟨nm, y, rfl, an, ln, P2, k2⟩
      refine ⟨_, rfl, _, rfl, _, rfl, a, _, 26, rfl, P2, by omega, by decide, by decide, fun H3 r' r0' r1' P3 k3 => ?_⟩
      obtain ⟨j, rfl⟩ : ∃ j : Nat, r' = (j : Int) := ⟨r'.toNat, by omega⟩
      have hj : j < 26 := by omega
      refine ⟨lettersS, _, 97 + j, rfl, rfl, szOk letters_len, atI_nat (letters_at hj), nm, _, rfl, rfl, ?_, ?_⟩
      · show nm.length + 1 ≤ sizeLine
        exact szOk (by omega)
      · refine ⟨nm ++ ⟨#[97 + j]⟩, _, rfl, alpha_app an hj, ?_, P3, k2.trans k3⟩
        rw [app_len, ln]
        rfl
    · rintro σ H2 ⟨nm, y, rfl, an, ln, P2, k2⟩
      refine ⟨Nat.zero_le _, fun l hl => ?_⟩
      have ol := P2.off hl
      have hl0 := k2.free hl ol
      refine ⟨_, rfl, n, rfl, by omega, by omega, for_range (lo := 0) (n := (n : Int).toNat) (fun i σ H' => ∃ (zs : List Str) (y : Option V),
        σ = [some (.ref a.p), some (.int n), some (.str lettersS), some (.str nm), y, some (.ref l)] ∧ zs.length = i ∧ zs.Nodup ∧ (∀ z ∈ zs, GoodName z) ∧ H' l = some (.lst (zs.map V.str)) ∧ Pool H' a (c + 5 + i * 5) ∧ Kp a H H')
        ⟨[], _, rfl, rfl, List.nodup_nil, (fun z hz => absurd hz List.not_mem_nil), upd_same, ((P2.mono (by omega)).upd ol), k2.mut hl0⟩ ?_ ?_⟩
      · rintro i σ H3 hi ⟨zs, y', rfl, lz, nz, gz, hz, P3, k3⟩
        refine ⟨_, rfl, .inl ⟨rfl, _, SqL.of hz⟩, _, rfl, _, rfl, _, rfl, a, _, nm, l, zs, rfl, P3, by omega, hz, ol, an, by omega, by omega, fun H4 z g4 n4 P4 k4 => ?_⟩
        have hz4 := k4 _ _ hz ol
        refine ⟨l, _, _, rfl, rfl, hz4, szLt (by rw [List.length_map]; omega), zs ++ [z], _, rfl, ?_, ?_, ?_, ?_, ?_, ?_⟩
        · rw [List.length_append, lz]
          rfl
        · rw [List.nodup_append]
          refine ⟨nz, by simp, fun x hx y hy e => ?_⟩
          have : y = z := by simpa using hy
          rw [this] at e
          exact n4 (by rw [← e]; exact hx)
        · intro x hx
          rcases List.mem_append.mp hx with hx | hx
          · exact gz x hx
          · have : x = z := by simpa using hx
            rw [this]
            exact g4
        · rw [upd_same, List.map_append]
          rfl
        · rw [show c + 5 + (i + 1) * 5 = c + 5 + i * 5 + 5 by omega]
          exact P4.upd ol
        · exact (k3.trans k4).mut hl0
      · rintro σ H3 ⟨zs, y', rfl, lz, nz, gz, hz, P3, k3⟩
        rw [Int.toNat_natCast] at lz P3
        exact ⟨_, rfl, q _ l zs P3 k3 hz ol nz gz lz⟩
end

/-! ### tuple * k; tuple(d); a, b, *c = t -/
namespace R22
open PySem PySem.Spec PyProof.Rows L2
def rRepA (K : PySem.W.Frag) : R2 := fun x y H Q => ∃ l k xs, x = .ref l ∧ y = .int k ∧ SqT K H l xs ∧ xs ≠ [] ∧ 1 ≤ k ∧ k ≤ 1000 ∧ xs.length ≤ 1000 ∧ ((k = 1 ∧ Q (.ref l) H) ∨ (1 < k ∧ ∀ p, H p = none → Q (.ref p) (L2.upd H p (.tup (List.replicate k.toNat xs).flatten))))
theorem mul1 (l : Addr) (o : Obj) (items : Array Value) (n : Nat) (hc : o.cls = .type "tuple") (hd : o.data = .seq items n) (u : Tok) :
    Meets (Builtin.«tuple.__mul__» ⟨[.ref l, .int 1 u], []⟩) (fun _ R s => s.heap.get? l = some o ∧ R (.ok (.ret (.ref l))) s) :=
  .of_wp fun prog w A R s hyp => by
    obtain ⟨hp, gg, dd, tt, oo⟩ := s
    obtain ⟨at1, hyp⟩ := hyp
    have ix := AutoSeq1.idx_int
    obtain ⟨cls, di, da, sl⟩ := o
    simp only at hc hd
    subst hc hd
    wp_walk using AutoSeq1.wpAny_loadPart' at1
    exact ⟨_, rfl, hyp⟩
section
variable {X : Cx}
theorem op_repA : OpR X (binaryOp .Mult) (rRepA X.K) := by
  intro pins s σ H x y v u Q I rx ry hyp
  obtain ⟨l, k, xs, e1, e2, hT, hne, b1, b2, hz, hyp⟩ := hyp
  rcases hyp with ⟨k1, q⟩ | ⟨k1, q⟩
  · subst e1 e2 k1
    cases rx
    obtain ⟨t, rfl⟩ := ry
    obtain ⟨its, rv, ⟨ob, at1, hc, n, hd⟩, _⟩ := I.tuple hT
    have at2 := at1
    have ty : s.TypeIs (.ref l) "tuple" := ⟨ob, at1, hc⟩
    obtain ⟨cls, di, da, sl⟩ := ob
    simp only at hc hd
    subst hc hd
    exact wpAny_binaryOp_repeat_ref (T := "tuple") (U := "int") (by decide) ty (fun s' => typeIs_int s' 1 t) noFill_tuple_mul F.fills_int_mul F.slot_int_rmul repeat_tuple F.slot_int_index.lookup
      (call_meets F.slot_int_rmul (typeIs_int s 1 t) F.entry_int_rmul (F.args_int_rmul_2 _ _) (int_rmul_tuple 1 t l its.toArray n di sl)
        ⟨at1, rfl, ty, call_meets F.slot_tuple_mul ty F.entry_tuple_mul (F.args_tuple_mul_2 _ _) (mul1 l _ _ _ rfl rfl t) ⟨at2, .ref l, H, I, rfl, q⟩⟩)
  · exact op_repT pins s σ H x y v u Q I rx ry ⟨l, k, xs, e1, e2, hT, hne, by omega, b2, hz, q⟩
end
/-! tuple(d) -/
section
variable {prog : Program} {w : World} {A : Around} {E : Value → Shared → Prop} {s : Shared} {T : String} {r d : Addr} {n : Nat} {P : Nat → Value → Prop} {OK : Heap → Prop}
theorem collected {Q : List Value → Shared → Prop} (src : PySem.W.KdlSrc prog w T r d n P OK) (hh : A.handled = none) (ok : OK s.heap) (small : n ≤ sizeLine)
    (k : ∀ (g : Heap) (tk : Nat) (acc : Array Value), (∀ b o, s.heap.get? b = some o → g.get? b = some o) → ItemsOf P acc n → Q acc.toList { s with heap := g, toks := tk }) :
    wpAny (model prog w) A (collect (.ref r)) Q E s := by
  obtain ⟨l1, l2⟩ := src.there _ ok
  unfold collect
  refine wpAny_bind (wpAny_runValue (codeAny_builtin F.entry_proto_collect ?_)); rw [Around.under_plainId F.plain_proto_collect _]
  change wpAny _ A.in1 (newList [] >>= fun x => again (.builtin "list.__iadd__" ⟨[x, .ref r], []⟩)) _ _ s
  refine wpAny_bind (wpAny_newObj_type (wpAny_pure ⟨plainId_quiet F.plain_list_iadd _, codeAny_builtin F.entry_list_iadd ?_⟩))
  rw [Around.under_plainId F.plain_list_iadd _]
  change wpAny _ A.in1 (Builtin.List.listExtendWith (.ref s.heap.objs.size) (.ref r) (.ref s.heap.objs.size)) _ _ _
  have old : ∀ b o, s.heap.get? b = some o → (s.heap.push { cls := .type "list", data := .seq ([] : List Value).toArray }).get? b = some o := fun b o q => Heap.get?_push_of_some _ q
  have fin : ∀ (g : Heap) (tk : Nat) (acc : Array Value) (c : Nat), (∀ b o, s.heap.get? b = some o → g.get? b = some o) → ItemsOf P acc n → g.get? s.heap.objs.size = some { cls := .type "list", dict := none, data := .seq acc c, slots := #[] } →
      wpAny (model prog w) A (do match (← load s.heap.objs.size).data with | Data.seq xs _ => pure xs.toList | _ => unsupported "internal:collect") Q E { s with heap := g, toks := tk } := fun g tk acc c kp ac at1 => wpAny_bind (wpAny_load at1 (wpAny_pure (k g tk acc kp ac)))
  refine wpAny_mono (PySem.W.kdl_extend (A := A) (R := fun f s2 => ∃ g tk acc c, f = .ok (.ret (.ref s.heap.objs.size)) ∧ s2 = { s with heap := g, toks := tk } ∧ (∀ b o, s.heap.get? b = some o → g.get? b = some o) ∧ ItemsOf P acc n ∧ g.get? s.heap.objs.size = some { cls := .type "list", dict := none, data := .seq acc c, slots := #[] })
    (s := { s with heap := s.heap.push { cls := .type "list", data := .seq ([] : List Value).toArray } }) src hh (src.keep _ _ ok fun b _ o q => old b o q) s.heap.objs.size (Nat.ne_of_gt l1) (Nat.ne_of_gt l2) _ 0 (Heap.get?_push_size _ rfl)
    (fun g tk acc c kp at1 ac => ⟨g, tk, acc, c, rfl, rfl, fun b o q => kp b o (Nat.ne_of_lt (Heap.lt_size q)) (old b o q), ac, at1⟩) small) (fun f s2 x => ?_) (fun e s2 x => ?_)
  · cases f with
    | done f =>
      obtain ⟨g, tk, acc, c, e1, rfl, kp, ac, at1⟩ := x
      cases e1
      exact fin g tk acc c kp ac at1
    | again c' =>
      refine ⟨x.1, codeAny_mono x.2 fun f' s3 y => ?_⟩
      obtain ⟨g, tk, acc, c, rfl, rfl, kp, ac, at1⟩ := y
      exact fin g tk acc c kp ac at1
  · obtain ⟨g, tk, acc, c, e1, _⟩ := x
    cases e1
theorem newed {Q : Value → Shared → Prop} (src : PySem.W.KdlSrc prog w T r d n P OK) (hh : A.handled = none) (ok : OK s.heap) (small : n ≤ sizeLine)
    (k : ∀ (g : Heap) (tk : Nat) (acc : Array Value), (∀ b o, s.heap.get? b = some o → g.get? b = some o) → ItemsOf P acc n → Q (.ref g.objs.size) { s with heap := g.push { cls := .type "tuple", data := .seq acc }, toks := tk }) :
    codeAny (model prog w) A (.call (.builtin "tuple.__new__") ⟨[.type "tuple", .ref r], []⟩) (wants Q E) s := by
  refine codeAny_of_tree ?_
  change wpAny _ A.in1 (do checkBuiltinCall "tuple.__new__" ⟨[.type "tuple", .ref r], []⟩; again (.builtin "tuple.__new__" ⟨[.type "tuple", .ref r], []⟩)) _ _ s
  refine wpAny_bind (wpAny_of_eq (F.newCall_tuple_1 _) (wpAny_pure ⟨plainId_quiet F.plain_tuple_new _, codeAny_builtin F.entry_tuple_new ?_⟩)); rw [Around.under_plainId F.plain_tuple_new _]
  have u1 := sub_tuple_self
  have u2 := init_tuple_lookup
  have u3 := madeHere_tuple
  have u4 : s.TypeIs (.ref r) T := src.type _ ok
  have u5 : A.in1.handled = none := hh
  have u6 := src.notTuple
  wp_walk using wpAny_typeOf u4, collected (A := A.in1) src u5 ok small
  intro g tk acc kp ac
  change wpAny _ _ (Builtin.Tuple.tupleExact acc.toList.toArray >>= fun x => ret x) _ _ _
  unfold Builtin.Tuple.tupleExact
  have ea : acc.toList.toArray = acc := by simp
  rw [ea]
  exact wpAny_bind (wpAny_newObj_type (wpAny_pure (k g tk acc kp ac)) (by change acc.size ≤ sizeLine; rw [ac.1]; exact small))
theorem told {Q : Value → Shared → Prop} (src : PySem.W.KdlSrc prog w T r d n P OK) (hh : A.handled = none) (ok : OK s.heap) (small : n ≤ sizeLine)
    (k : ∀ (g : Heap) (tk : Nat) (acc : Array Value), (∀ b o, s.heap.get? b = some o → g.get? b = some o) → ItemsOf P acc n → Q (.ref g.objs.size) { s with heap := g.push { cls := .type "tuple", data := .seq acc }, toks := tk }) :
    wpAny (model prog w) A (call (.type "tuple") [.ref r]) Q E s :=
  callType_codes (Q₁ := fun x s1 => s1.TypeIs x "tuple" ∧ Q x s1) F.called_tuple (F.typeCall_tuple_1 _) F.entry_object_init (newed (A := A.in1) src hh ok small fun g tk acc kp ac => ⟨⟨_, Heap.get?_push_size _ rfl, rfl⟩, k g tk acc kp ac⟩)
    fun x s1 y => ⟨y.1, F.args_object_init_2 x _, object_init_meets F.called_tuple.init.lookup F.called_tuple.made (by decide) prog w A.in1 _ s1 ⟨y.1, rfl, y.2⟩⟩
end
section
variable {X : Cx}
def rTupD : List V → Hp → VK → Prop := fun xs H Q => ∃ a kvs, xs = [.ref a] ∧ H a = some (.dK kvs) ∧ ∀ b, H b = none → Q (.ref b) (L2.upd H b (.tup (kvs.map fun z => kV z.1)))
theorem call_tuple_dict (hc : X.calm = true) : CallR X (.type "tuple") rTupD := by
  intro pins s σ H xs us Q I r hyp
  obtain ⟨a, kvs, e, hk, q⟩ := hyp
  subst e
  obtain ⟨u, eu, rx⟩ := vals1 r
  subst eu
  obtain rfl : u = Value.ref a := rx
  obtain ⟨small, lo, vs, rk, hd⟩ := (show ObjOk X.prog X.w H s.heap a (.dK kvs) from I.hok a _ hk)
  obtain ⟨ep, hat⟩ := hd.dictAt
  have ln : kvs.length = vs.length := Paired.length rk
  refine told (PySem.W.kdl_dict (knd := mixKind X.prog X.w) (kvs := vs) (ep := ep) lo) (I.ok.hd hc) hat (by rw [← ln]; exact small) fun g tk acc kp ac => ?_
  have I1 : Inv X pins σ H { s with heap := g, toks := tk } := I.kept kp
  refine ⟨.ref g.objs.size, L2.upd H g.objs.size (.tup (kvs.map fun z => kV z.1)), I1.laid (t' := tk) (fun b o q => Heap.get?_push_of_some _ q) (Nat.le_refl _) (show ObjOk X.prog X.w _ _ _ (.tup (kvs.map fun z => kV z.1)) from ⟨?_, acc.toList, ?_, ?_⟩), rfl, q _ (I1.hok.fresh (Nat.le_refl _))⟩
  · rw [List.length_map]
    exact small
  · have el : acc.toList.length = acc.size := by simp
    refine vals_of_at (by rw [List.length_map, el, ac.1, ln]) fun j x v h1 h2 => ?_
    obtain ⟨k, y, hky, hi⟩ := ac.2 j v (by rw [← Array.getElem?_toList]; exact h2)
    have e1 : (kvs.map fun z => kV z.1)[j]? = some (kV k) := by
      have := congrArg (fun l => (l[j]?).map kV) (KV.keys rk)
      simpa [List.getElem?_map, Option.map_map, Function.comp_def, hky] using this
    rw [e1] at h1
    cases h1
    exact keyIs_rel hi
  · rw [Array.toArray_toList]
    exact IsTup.new _ _
end
/-! a, .., *c = a tuple -/
theorem walk_from {prog : Program} {w : World} {A : Around} (hh : A.handled = none) (I ax : Addr) (hne : ax ≠ I) (items : Array Value) (k : Nat) (hk : k ≤ items.size) :
    Walks prog w A I [I, ax] [I] (items.size - k) (fun i v => items[k + i]? = some v) (fun i h => h.IsTupleIter I ax (k + i) ∧ h.IsTuple ax items) :=
  let W := Walks.tuple (prog := prog) (w := w) hh I ax hne items
  ⟨W.sub, fun i => W.frame (k + i), fun i s Q E hi st hQ => W.item (k + i) s Q E (by omega) st hQ,
    fun s Q E st hQ => W.done s Q E (by rw [show k + (items.size - k) = items.size by omega] at st; exact st) hQ, fun i => W.self (k + i)⟩
section
variable {prog : Program} {w : World} {A : Around} {E : Value → Shared → Prop} {s : Shared}
theorem items_star {t : Addr} {items : Array Value} {k : Nat} {Q : List Value → Shared → Prop} (hh : A.handled = none) (ht : IsTup s.heap t items) (hk : k ≤ items.size) (hz : items.size ≤ sizeLine)
    (hQ : ∀ (h' : Heap) (tk : Nat), (∀ b o, s.heap.get? b = some o → h'.get? b = some o) →
      Q (items.toList.take k ++ [.ref h'.objs.size]) { s with heap := h'.push { cls := .type "list", data := .seq (items.toList.drop k).toArray }, toks := tk }) :
    wpAny (model prog w) A (unpackItems (.ref t) (k + 1) (some k)) Q E s := by
  have hlt : t ≠ s.heap.objs.size := Nat.ne_of_lt ht.lt
  unfold unpackItems
  refine wpAny_bind ?_
  unfold notIterableAtAll
  refine wpAny_bind (wpAny_specialOf ht.typeIs slot_tuple_iter.lookup (wpAny_pure ?_))
  simp only [Bool.false_eq_true, if_false]
  refine wpAny_bind (wpAny_holding (iter_tuple ht ?_))
  refine wpAny_bind (wpAny_holding (draw_tuple hlt k 0 _ _ ⟨_, Heap.get?_push_size _ rfl, rfl, rfl⟩ (ht.push _) (by omega) fun g hit hs => ?_))
  rw [List.drop_zero, if_neg (by simp; omega)]
  have ht1 : IsTup g t items := (ht.push _).extBut hs.extBut hlt
  have l1 : s.heap.objs.size < g.objs.size := by obtain ⟨o, e, _⟩ := hit; exact Heap.lt_size e
  have l2 : t < g.objs.size := ht1.lt
  have hit1 : g.IsTupleIter s.heap.objs.size t (k + 0) := by rw [Nat.add_zero]; rw [Nat.zero_add] at hit; exact hit
  refine wpAny_bind (wpAny_holding (wpAny_collect_iter (T := "tuple_iterator") (.inr (.inr (.inr rfl))) (walk_from (A := A.in1) hh s.heap.objs.size t hlt items k hk).toS
    (fun _ _ st => let ⟨o, ho, hc, _⟩ := st.1; ⟨o, ho, hc⟩) ⟨hit1, ht1⟩ (fun b hb => ?_) (by simp) (fun s' acc hm ha => ?_) (by omega)))
  · simp only [List.mem_cons, List.not_mem_nil, or_false] at hb
    rcases hb with rfl | rfl
    · exact l1
    · exact l2
  · have ea : acc.toList = items.toList.drop k := by
      refine List.ext_getElem? fun j => ?_
      rw [List.getElem?_drop]
      by_cases hj : j < acc.size
      · have := ha.2 j acc[j] (by simp [hj])
        rw [Array.getElem?_toList, Array.getElem?_toList, this]
        simp [hj]
      · have h1 := ha.1
        rw [List.getElem?_eq_none (by simp; omega), List.getElem?_eq_none (by simp; omega)]
    rw [ea]
    have e0 : k + 1 - 1 - k = 0 := by omega
    simp only [e0, Nat.not_lt_zero, if_false, Nat.sub_zero]
    rw [List.take_of_length_le (Nat.le_refl _), List.drop_of_length_le (Nat.le_refl _)]
    refine wpAny_bind (wpAny_newObj_type (wpAny_pure ?_) (by change (items.toList.drop k).toArray.size ≤ sizeLine; simp; omega))
    obtain ⟨g1, gg, dd, tt, oo⟩ := s'
    obtain ⟨m1, m2, m3, m4, m5⟩ := hm
    simp only at m1 m2 m3 m4 m5 ⊢
    subst m2 m3 m4
    rw [List.append_nil]
    exact hQ g1 tt fun b o e => m1 b o (by simp; exact Nat.ne_of_lt (Heap.lt_size e)) (hs.extBut b o (Nat.ne_of_lt (Heap.lt_size e)) (Heap.get?_push_of_some _ e))
end
section
variable {X : Cx} {pos : Pos}
/-- (a, .., *c) = a tuple, k plain targets ahead of the last -/
def gStar (K : PySem.W.Frag) (k : Nat) (t : TGs) : TG := fun v σ H Q => ∃ a xs, v = .ref a ∧ SqT K H a xs ∧ k ≤ xs.length ∧ ∀ p, H p = none → t (xs.take k ++ [.ref p]) σ (L2.upd H p (.lst (xs.drop k))) Q
theorem pgs_star {e : Expr} {p : Pos} {t : TG} (h1 : PG X e t) (hs : (assignEach [.Starred e p] X.env).map (·.2) = [assign e X.env] := by rfl) : PGs X [.Starred e p] (gCons t gNil) := by
  refine ⟨fun pins s σ H vs us Q I r h => ?_⟩
  obtain ⟨v, vr, e1, h⟩ := h
  subst e1
  cases r with
  | cons r rr =>
    rw [hs]
    refine assignInOrder_cons (L2.thn (h1.run pins s σ H _ _ _ I r h) fun _ s1 y => ?_)
    obtain ⟨σ1, H1, I1, n1, q1⟩ := y
    subst n1
    cases rr
    exact assignInOrder_nil ⟨σ1, H1, I1, q1⟩
theorem pg_star {es : List Expr} {j k : Nat} {t : TGs} (hc : X.calm = true) (h : PGs X es t)
    (hn : (assignEach es X.env).length = k + 1 := by rfl) (hst : (assignEach es X.env).findIdx? (·.1) = some k := by rfl) : PG X (.Tuple es j pos) (gStar X.K k t) := by
  refine ⟨fun pins s σ H v u Q I r hw => ?_⟩
  obtain ⟨a, xs, e1, hq, hl, hw⟩ := hw
  subst e1
  cases r
  obtain ⟨its, rv, ht, hz⟩ := I.tuple hq
  rw [assign_Tuple]
  refine wpAny_bind (wpAny_standAt ?_)
  unfold unpack
  rw [hn, hst]
  refine wpAny_bind (wpAny_holding (items_star (I.ok.hd hc) ht (by have := rv.length; simp at *; omega) (by have := rv.length; simp at *; omega) fun h' tk kp => ?_))
  have I1 : Inv X pins σ H { s with heap := h', toks := tk } := I.kept kp
  have I2 := I1.laid (t' := tk) (h' := h'.push { cls := .type "list", data := .seq (its.drop k).toArray }) (fun b o q => Heap.get?_push_of_some _ q) (Nat.le_refl _) (show ObjOk X.prog X.w (L2.upd H h'.objs.size (.lst (xs.drop k))) _ h'.objs.size (.lst (xs.drop k)) from ⟨by rw [List.length_drop]; have := rv.length; simp at *; omega, its.drop k, _, rv.drop k, Heap.get?_push_size _ rfl⟩)
  refine h.run pins _ σ _ _ _ Q I2 ?_ (hw _ (I1.hok.fresh (Nat.le_refl _)))
  exact (rv.take k).append (.cons rfl .nil)
end
end R22

/-! ### runs: a path, then a ring over and over -/
/-- the standing at a place -/
def wk (p r : List Int) (k : Nat) : Int := if k < p.length then p.getD k 0 else r.getD ((k - p.length) % r.length) 0
theorem wk_path {p r : List Int} {k : Nat} (h : k < p.length) : (p.map V.int)[k]? = some (.int (wk p r k)) := by
  unfold wk
  rw [if_pos h, List.getElem?_map, List.getD_eq_getElem?_getD, List.getElem?_eq_getElem h]
  rfl
theorem wk_ring {p r : List Int} {k : Nat} (h : ¬ k < p.length) (hr : r ≠ []) : (r.map V.int)[(k - p.length) % r.length]? = some (.int (wk p r k)) := by
  have l : (k - p.length) % r.length < r.length := Nat.mod_lt _ (List.length_pos_iff.mpr hr)
  unfold wk
  rw [if_neg h, List.getElem?_map, List.getD_eq_getElem?_getD, List.getElem?_eq_getElem l]
  rfl
/-- a run, told as a pair of tuples -/
structure RunAt (K : PySem.W.Frag) (H : Hp) (a : Addr) (p r : List Int) : Prop where
  ex : ∃ pa ra : Addr, SqT K H a [.ref pa, .ref ra] ∧ SqT K H pa (p.map V.int) ∧ SqT K H ra (r.map V.int)
theorem RunAt.imm {K : PySem.W.Frag} {H H' : Hp} {a : Addr} {p r : List Int} (M : RunAt K H a p r) (e : Imm H H') : RunAt K H' a p r := by
  obtain ⟨pa, ra, h1, h2, h3⟩ := M.ex
  exact ⟨pa, ra, e.sq h1, e.sq h2, e.sq h3⟩
/-- a form -/
inductive Form where
  | next (one : List Int)
  | once (one : List Int)
  | ever (one : List Int)
  | til (one oth : List Int)
  | unl (one oth : List Int)
def Form.word : Form → Str
  | .next _ => "next"
  | .once _ => "once"
  | .ever _ => "ever"
  | .til _ _ => "until"
  | .unl _ _ => "unless"
def Form.one : Form → List Int
  | .next o => o
  | .once o => o
  | .ever o => o
  | .til o _ => o
  | .unl o _ => o
def Form.rest : Form → List (List Int)
  | .til _ o => [o]
  | .unl _ o => [o]
  | _ => []
structure FormAt (K : PySem.W.Frag) (H : Hp) (f : Addr) (φ : Form) : Prop where
  ex : ∃ (oa : Addr) (bs : List Addr), SqT K H f (.str φ.word :: .ref oa :: bs.map V.ref) ∧ SqT K H oa (φ.one.map V.int) ∧ Each (fun b o => SqT K H b (List.map V.int o)) bs φ.rest
theorem FormAt.imm {K : PySem.W.Frag} {H H' : Hp} {f : Addr} {φ : Form} (M : FormAt K H f φ) (e : Imm H H') : FormAt K H' f φ := by
  obtain ⟨oa, bs, h1, h2, h3⟩ := M.ex
  exact ⟨oa, bs, e.sq h1, e.sq h2, h3.imp fun _ _ h => e.sq h⟩
/-- gone through until one tells -/
def scan (one oth : List Int) (e : Bool) : List Int → Bool
  | [] => e
  | x :: t => if x ∈ oth then true else if x ∉ one then false else scan one oth e t
/-- what a form asks of an endless row -/
def Form.holds (w : Nat → Int) : Form → Prop
  | .next o => w 1 ∈ o
  | .once o => ∃ k, w k ∈ o
  | .ever o => ∀ k, w k ∈ o
  | .til o u => ∃ k, w k ∈ u ∧ ∀ j, j < k → w j ∈ o
  | .unl o u => (∃ k, w k ∈ u ∧ ∀ j, j < k → w j ∈ o) ∨ ∀ k, w k ∈ o
def Form.on (p r : List Int) : Form → Bool
  | .next o => decide (wk p r 1 ∈ o)
  | .once o => decide (∃ t ∈ p ++ r, t ∈ o)
  | .ever o => decide (∀ t ∈ p ++ r, t ∈ o)
  | .til o u => scan o u false (p ++ r)
  | .unl o u => scan o u true (p ++ r)
/-! what a cut, a joined, a repeated tuple tells, new or not -/
section
variable {K : PySem.W.Frag} {H : Hp}
theorem catQ {a b : Addr} {xs ys : List V} {Q : V → Hp → Prop} (ha : SqT K H a xs) (hb : SqT K H b ys) (q : ∀ c H', Same H H' → SqT K H' c (xs ++ ys) → Q (.ref c) H') :
    (xs = [] → Q (.ref b) H) ∧ (xs ≠ [] → ys = [] → Q (.ref a) H) ∧ (xs ≠ [] → ys ≠ [] → ∀ p, H p = none → Q (.ref p) (L2.upd H p (.tup (xs ++ ys)))) :=
  ⟨fun e => q b H (Same.refl _) (by rw [e]; exact hb), fun _ e => q a H (Same.refl _) (by rw [e, List.append_nil]; exact ha), fun _ _ p hp => q p _ (same_upd hp) (SqT.of upd_same)⟩
theorem slQ {a : Addr} {xs : List V} {lo hi : Option Int} {Q : V → Hp → Prop} (ha : SqT K H a xs) (q : ∀ c H', Same H H' → SqT K H' c (cutV xs lo hi) → Q (.ref c) H') :
    (HT.sIx xs.length 0 lo = 0 ∧ HT.sIx xs.length xs.length hi = xs.length → Q (.ref a) H) ∧ (¬ (HT.sIx xs.length 0 lo = 0 ∧ HT.sIx xs.length xs.length hi = xs.length) → ∀ p, H p = none → Q (.ref p) (L2.upd H p (.tup (cutV xs lo hi)))) :=
  ⟨fun e => q a H (Same.refl _) (by unfold cutV; rw [e.1, e.2, Nat.sub_zero, List.drop_zero, List.take_of_length_le (Nat.le_refl _)]; exact ha), fun _ p hp => q p _ (same_upd hp) (SqT.of upd_same)⟩
theorem repQ {a : Addr} {k : Int} {xs : List V} {Q : V → Hp → Prop} (ha : SqT K H a xs) (h1 : 1 ≤ k) (q : ∀ c H', Same H H' → SqT K H' c (List.replicate k.toNat xs).flatten → Q (.ref c) H') :
    (k = 1 ∧ Q (.ref a) H) ∨ (1 < k ∧ ∀ p, H p = none → Q (.ref p) (L2.upd H p (.tup (List.replicate k.toNat xs).flatten))) := by
  by_cases e : k = 1
  · subst e
    exact .inl ⟨rfl, q a H (Same.refl _) (by simpa using ha)⟩
  · exact .inr ⟨by omega, fun p hp => q p _ (same_upd hp) (SqT.of upd_same)⟩
variable {X : Cx}
def rCatQ (K : PySem.W.Frag) : R2 := fun x y H Q => ∃ a b xs ys, x = .ref a ∧ y = .ref b ∧ SqT K H a xs ∧ SqT K H b ys ∧ xs.length + ys.length ≤ sizeLine ∧ ∀ c H', Same H H' → SqT K H' c (xs ++ ys) → Q (.ref c) H'
theorem op_catQ : OpR X (binaryOp .Add) (rCatQ X.K) := fun pins s σ H x y v u Q I rx ry ⟨a, b, xs, ys, h1, h2, h3, h4, h5, q⟩ => op_catA pins s σ H x y v u Q I rx ry ⟨a, b, xs, ys, h1, h2, h3, h4, h5, catQ h3 h4 q⟩
def rSlQ (K : PySem.W.Frag) : V → Option Int → Option Int → Hp → VK → Prop := fun x lo hi H Q => ∃ a xs, x = .ref a ∧ SqT K H a xs ∧ ∀ c H', Same H H' → SqT K H' c (cutV xs lo hi) → Q (.ref c) H'
theorem sl_tupQ : SlR X (rSlQ X.K) := fun pins s σ H x v vl vu lo hi sl Q I rx hs pl pu ⟨a, xs, h1, h2, q⟩ => sl_tupA pins s σ H x v vl vu lo hi sl Q I rx hs pl pu ⟨a, xs, h1, h2, slQ h2 q⟩
def rRepQ (K : PySem.W.Frag) : R2 := fun x y H Q => ∃ l k xs, x = .ref l ∧ y = .int k ∧ SqT K H l xs ∧ xs ≠ [] ∧ 1 ≤ k ∧ k ≤ 1000 ∧ xs.length ≤ 1000 ∧ ∀ c H', Same H H' → SqT K H' c (List.replicate k.toNat xs).flatten → Q (.ref c) H'
theorem op_repQ : OpR X (binaryOp .Mult) (rRepQ X.K) := fun pins s σ H x y v u Q I rx ry ⟨a, k, xs, h1, h2, h3, h4, h5, h6, h7, q⟩ => R22.op_repA pins s σ H x y v u Q I rx ry ⟨a, k, xs, h1, h2, h3, h4, h5, h6, h7, repQ h3 h5 q⟩
end
/-! a dict as a set of numbers -/
def keyI (x : Int) : Key × V := (Sum.inl x, .bl true)
theorem put_key {F : List Int} {t : Int} (h : t ∉ F) : putK (F.map keyI) (Sum.inl t : Key) (.bl true) = (F ++ [t]).map keyI := by
  unfold putK
  rw [if_neg, List.map_append]
  · rfl
  · rw [List.any_map, List.any_eq_true]
    rintro ⟨x, hx, e⟩
    have : x = t := by simpa [keyI] using e
    exact h (by rw [← this]; exact hx)
theorem put_old {F : List Int} {t : Int} (h : t ∈ F) : putK (F.map keyI) (Sum.inl t : Key) (.bl true) = F.map keyI := by
  unfold putK
  rw [if_pos, List.map_map]
  · refine List.map_congr_left fun x _ => ?_
    show (if (keyI x).1 = Sum.inl t then ((keyI x).1, V.bl true) else keyI x) = keyI x
    split <;> rfl
  · rw [List.any_map, List.any_eq_true]
    exact ⟨t, h, by simp [keyI]⟩

/-! ### a def with one keyword-only parameter that stands for the empty tuple where it is left out -/
structure CalK (P : Program) (w : World) (K : PySem.W.Frag) (mg : Str → Option Value) (base : Heap) (k : Nat) (x : Str) (ps : List Str) (sp : Sp) (n : Nat) (ks : List Str) where
  f : Addr
  fd : FuncData
  G : FnOk P w K mg base CX0 k f fd ps sp
  g : mg x = some (.ref f)
  kp : PySem.W.keepIn K (.ref f) = true
  aW : Addr
  sW : ∀ H, SqT K H aW []
  ds : List Value
  rd : Vals [V.ref aW] ds
  b : Binds K fd ps ds
  kb : KBn K fd ps n ks (fun us ws => us ++ ws) (fun vs zs => vs ++ zs)
theorem okN {P : Program} {w : World} {K : PySem.W.Frag} {mg : Str → Option Value} {base : Heap} {x qual : Str} {params : Arguments} {body : List Stmt} {scope : Scope} {dvs : List V} {kws : List (Str × V)} {f : Addr} {fd : FuncData} {N ps : List Str} {k : Nat} {sp : Sp}
    (F : FunD K x qual params body scope dvs kws f fd) (S : FnScope N ps scope) (len : ∀ vs H Q E, sp vs H Q E → vs.length = ps.length)
    (go : ∀ (cdv : Value) (A : Around) (outer : List Env) (s : Shared) (H : Hp) (vs : List V) (Q : VK) (E : XK), Room k (A.deeper (envOfC qual scope s.heap.objs.size f cdv)) → sp vs H Q E →
      ∃ t, PSs (cxOf CX0 P w K mg base N qual scope f cdv A outer s H E).nox body t ∧ t { nx := fun _ H' => Q .non H', rt := Q } (L2.start N vs) H) : FnOk P w K mg base CX0 (k + 1) f fd ps sp :=
  F.ok S len fun cdv A outer s H vs Q E hr h => by
    obtain ⟨t, h1, h2⟩ := go cdv A outer s H vs Q E hr h
    exact ⟨t, h1.nox, h2⟩

/-! ### bears -/
abbrev sbears : Stmt := topS 2
theorem scbears : FnScope ["machine", "standing", "name"] ["machine", "standing", "name"] (defScope sbears) := ⟨rfl, rfl, rfl, by decide +kernel, rfl, by decide +kernel, by decide +kernel⟩
section
variable {P : Program} {w : World} {K : PySem.W.Frag} {mg : Str → Option Value} {base : Heap}
def spBears (K : PySem.W.Frag) : Sp := fun vs H Q _ => ∃ (m : Addr) (steps : List (List Int)) (marks : List (List Str)) (j : Nat) (row : List Str) (z : Str), vs = [.ref m, .int j, .str z] ∧ MachAt K H m steps marks ∧ marks[j]? = some row ∧
  Q (.bl (decide (z = Str.ofString "") || decide (z ∈ row))) H
theorem ok_bears {f : Addr} {fd : FuncData} (F : Fun K "bears" "bears" sbears f fd) : FnOk P w K mg base CX0 1 f fd ["machine", "standing", "name"] (spBears K) := by
  refine F.ok scbears (fun vs H Q E h => ?_) (fun cdv A outer s H vs Q E hr h => ?_)
  · obtain ⟨m, steps, marks, j, row, z, rfl, _⟩ := h
    rfl
  · obtain ⟨m, steps, marks, j, row, z, rfl, M, hj, q⟩ := h
    obtain ⟨s, k, sa, ka, h1, h2, h3, h4, h5⟩ := M.ex
    obtain ⟨a, ha, hra⟩ := h5.getx hj
    refine ⟨_, (pss_one (ps_ret (pe_or (pe_cmpR op_eq (pv 2) pe_str (nomark _)) (pe_one (pe_cmpR op_in_seq (pv 2) (pe_ix ix_tup (pe_ix ix_tup (pv 0) pe_int (fun _ _ => rfl)) (pv 1) (fun _ _ => rfl)) (by rfl)))))), ?_⟩
    refine ⟨_, rfl, rfl, _, rfl, ite2 (fun e => ?_) (fun e => ?_)⟩
    · rw [dec_str] at e
      rw [e, Bool.true_or] at q
      exact q
    · rw [dec_str] at e
      have e' : decide (z = Str.ofString "") = false := by simpa using e
      rw [e', Bool.false_or] at q
      refine ⟨_, rfl, _, rfl, m, _, 1, .ref k, rfl, rfl, h1, at_of (j := 1) rfl rfl, _, rfl, k, _, _, .ref a, rfl, rfl, h3, at_of (j := j) rfl (get_map ha), a, _, rfl, .inr hra, rfl, flat_str _, ?_⟩
      rw [← inV_str] at q
      exact q
end

/-! ### is_fair -/
abbrev sis_fair : Stmt := topS 4
theorem scis_fair : FnScope ["machine", "run", "wishes", "when", "then", "asked", "one"] ["machine", "run", "wishes"] (defScope sis_fair) := ⟨rfl, rfl, rfl, by decide +kernel, rfl, by decide +kernel, by decide +kernel⟩
def brs (marks : List (List Str)) (z : Str) (x : Int) : Bool := decide (z = Str.ofString "") || decide (z ∈ marks.getD x.toNat [])
/-- each wish is met on the ring -/
def fairB (marks : List (List Str)) (r : List Int) (ws : List (Str × Str)) : Bool := ws.all fun x => !(r.any (brs marks x.1)) || r.any (brs marks x.2)
section
variable {P : Program} {w : World} {K : PySem.W.Frag} {mg : Str → Option Value} {base : Heap}
def spFair (K : PySem.W.Frag) : Sp := fun vs H Q _ => ∃ (m a t : Addr) (steps : List (List Int)) (marks : List (List Str)) (p r : List Int) (ws : List (Str × Str)), vs = [.ref m, .ref a, .ref t] ∧ MachAt K H m steps marks ∧ RunAt K H a p r ∧ WishAt K H t ws ∧
  (∀ x ∈ r, 0 ≤ x ∧ x < marks.length) ∧ r.length ≤ 1000 ∧ ∀ H', Same H H' → Q (.bl (fairB marks r ws)) H'
theorem ok_fair {f : Addr} {fd : FuncData} {kws : List (Str × V)} (F : FunD K "is_fair" "is_fair" (defArgs sis_fair) (defBody sis_fair) (defScope sis_fair) [] kws f fd) (T : Bi mg) (cbears : Cal P w K mg base 1 "bears" ["machine", "standing", "name"] (spBears K)) :
    FnOk P w K mg base CX0 2 f fd ["machine", "run", "wishes"] (spFair K) := by
  refine okN F scis_fair (fun vs H Q E h => ?_) (fun cdv A outer s H vs Q E hr h => ?_)
  · obtain ⟨m, a, t, steps, marks, p, r, ws, rfl, _⟩ := h
    rfl
  · obtain ⟨m, a, t, steps, marks, p, r, ws, rfl, M, R, ⟨wa, hw, ew⟩, hb, hl, q⟩ := h
    obtain ⟨pa, ra, r1, r2, r3⟩ := R.ex
    have row : ∀ x ∈ r, ∃ j : Nat, x = (j : Int) ∧ marks[j]? = some (marks.getD x.toNat []) := fun x hx => by
      obtain ⟨x0, x1⟩ := hb x hx
      refine ⟨x.toNat, by omega, ?_⟩
      rw [List.getD_eq_getElem?_getD, List.getElem?_eq_getElem (by omega)]
      rfl
    refine ⟨_, (pss_cons (ps_for PassesOwn.never rfl (pi_tup (pv 2)) (pg_tup rfl (pgs_cons (pg_name (i := 3) scis_fair.nd rfl (.inr rfl)) (pgs_cons (pg_name (i := 4) scis_fair.nd rfl (.inr rfl)) pgs_nil)))
        (pss_cons (ps_set (i := 5) scis_fair.nd rfl (.inl rfl) (pe_callB (cr_any rfl) (by rfl) T.any (by decide +kernel) (pa_cons (pe_lc (own := [("one", 6)]) (g := gName 6) rfl scis_fair.nd (pi_tup (pe_ix ix_tup (pv 1) pe_int (fun _ _ => rfl))) (blkOk_by (own := [("one", 6)]) (N := ["machine", "run", "wishes", "when", "then", "asked", "one"]) (sc := defScope sis_fair) (by decide +kernel)) (fun _ _ _ _ _ => (pg_name (i := 6) scis_fair.nd rfl (.inl rfl))) (fun _ _ _ _ _ => pts_nil) (fun _ _ _ _ _ => (pe_call cbears.G hr (by rfl) cbears.g cbears.kp cbears.b .nil pass0 (pa_cons (pv 0) (pa_cons (pv 6) (pa_cons (pv 3) pa_nil)))))) pa_nil)))
        (pss_one (ps_if (PW.pt (pw_and (pt_val (pv 5)) (pw_and1 (pt_not (pt_val (pe_callB (cr_any rfl) (by rfl) T.any (by decide +kernel) (pa_cons (pe_lc (own := [("one", 6)]) (g := gName 6) rfl scis_fair.nd (pi_tup (pe_ix ix_tup (pv 1) pe_int (fun _ _ => rfl))) (blkOk_by (own := [("one", 6)]) (N := ["machine", "run", "wishes", "when", "then", "asked", "one"]) (sc := defScope sis_fair) (by decide +kernel)) (fun _ _ _ _ _ => (pg_name (i := 6) scis_fair.nd rfl (.inl rfl))) (fun _ _ _ _ _ => pts_nil) (fun _ _ _ _ _ => (pe_call cbears.G hr (by rfl) cbears.g cbears.kp cbears.b .nil pass0 (pa_cons (pv 0) (pa_cons (pv 6) (pa_cons (pv 4) pa_nil)))))) pa_nil)))))))
          (pss_one (ps_ret pe_bl))
          pss_nil))))
      (pss_one (ps_ret pe_bl))), ?_⟩
    refine ⟨_, rfl, t, rfl, ⟨_, hw⟩, for_tup (K := K) (a := t) (xs := wa.map V.ref) (fun i σ H' => ∃ y3 y4 y5 : Option V, σ = [some (.ref m), some (.ref a), some (.ref t), y3, y4, y5, none] ∧ Same H H' ∧ fairB marks r ws = fairB marks r (ws.drop i))
      ⟨none, none, none, rfl, Same.refl _, rfl⟩ (fun i σ H' _ ⟨_, _, _, _, s1, _⟩ => ssqt s1 hw) ?_ ?_⟩
    · rintro i x σ H1 hx ⟨y3, y4, y5, rfl, s1, e⟩
      obtain ⟨b, hb1, rfl⟩ := ref_get hx
      obtain ⟨⟨wh, th⟩, hwi, htw⟩ := ew.get hb1
      have ed : ws.drop i = (wh, th) :: ws.drop (i + 1) := by
        obtain ⟨hi, e0⟩ := List.getElem?_eq_some_iff.mp hwi
        rw [List.drop_eq_getElem_cons hi, e0]
      rw [ed] at e
      have e' : fairB marks r ws = ((!(r.any (brs marks wh)) || r.any (brs marks th)) && fairB marks r (ws.drop (i + 1))) := e
      refine ⟨b, _, rfl, ssqt s1 htw, rfl, _, _, rfl, _, _, rfl, rfl, ?_⟩
      refine ⟨_, rfl, a, _, 1, .ref ra, rfl, rfl, ssqt s1 r1, at_of (j := 1) rfl rfl, ra, rfl, ⟨_, ssqt s1 r3⟩, fun D hD => lc_tupS (K := K) (a := ra) (xs := r.map V.int) (fun i acc => acc = (r.take i).map fun x => V.bl (brs marks wh x)) (ssqt s1 r3) hD (by rw [List.length_map]; omega) rfl (fun _ => rfl) ?_ ?_⟩
      · intro j x H2 acc hx s2 hacc _ N1 N2 k1 k2
        obtain ⟨z, hz, rfl⟩ := map_get hx
        obtain ⟨jz, ez, hrow⟩ := row z (List.mem_of_getElem? hz)
        refine iteT (B := False) ⟨_, rfl, _, rfl, _, rfl, m, steps, marks, jz, _, wh, by rw [ez] <;> rfl, M.imm (simm (s1.trans s2)), hrow, k1 _ _ (Same.refl _) ?_⟩
        rw [hacc, List.take_succ, hz, List.map_append]
        rfl
      intro H2 acc s2 hD2 _ hacc
      rw [List.length_map, List.take_of_length_le (Nat.le_refl _)] at hacc
      refine ⟨D, r.map (brs marks wh), rfl, SqL.of (by rw [hD2, hacc, List.map_map]; rfl), ?_⟩
      rw [List.any_map]
      refine ⟨_, rfl, _, rfl, ?_⟩
      refine ite2 (fun e1 => ?_) (fun e1 => iteF ?_)
      · have e1' : r.any (brs marks wh) = true := e1
        rw [e1'] at e'
        refine ⟨_, rfl, a, _, 1, .ref ra, rfl, rfl, ssqt (s1.trans s2) r1, at_of (j := 1) rfl rfl, ra, rfl, ⟨_, ssqt (s1.trans s2) r3⟩, fun D2 hD2 => lc_tupS (K := K) (a := ra) (xs := r.map V.int) (fun i acc => acc = (r.take i).map fun x => V.bl (brs marks th x)) (ssqt (s1.trans s2) r3) hD2 (by rw [List.length_map]; omega) rfl (fun _ => rfl) ?_ ?_⟩
        · intro j x H3 acc hx s3 hacc _ N1 N2 k1 k2
          obtain ⟨z, hz, rfl⟩ := map_get hx
          obtain ⟨jz, ez, hrow⟩ := row z (List.mem_of_getElem? hz)
          refine iteT (B := False) ⟨_, rfl, _, rfl, _, rfl, m, steps, marks, jz, _, th, by rw [ez] <;> rfl, M.imm (simm ((s1.trans s2).trans s3)), hrow, k1 _ _ (Same.refl _) ?_⟩
          rw [hacc, List.take_succ, hz, List.map_append]
          rfl
        intro H3 acc s3 hD3 _ hacc
        rw [List.length_map, List.take_of_length_le (Nat.le_refl _)] at hacc
        refine ⟨D2, r.map (brs marks th), rfl, SqL.of (by rw [hD3, hacc, List.map_map]; rfl), ?_⟩
        rw [List.any_map]
        refine ⟨_, rfl, ?_⟩
        have s4 := (s1.trans s2).trans s3
        cases e2 : r.any (brs marks th) with
        | false =>
          rw [e2] at e'
          have := q H3 (by exact s4)
          rw [e'] at this
          rw [show r.any (id ∘ brs marks th) = false from e2]
          exact this
        | true =>
          rw [e2] at e'
          rw [show r.any (id ∘ brs marks th) = true from e2]
          exact ⟨_, _, _, rfl, s4, e'⟩
      · have e1' : r.any (brs marks wh) = false := by
          have := Bool.eq_false_iff.mpr e1
          exact this
        rw [e1'] at e'
        exact ⟨_, _, _, rfl, s1.trans s2, e'⟩
    · rintro σ H1 ⟨y3, y4, y5, rfl, s1, e⟩
      rw [List.length_map, ew.len, List.drop_of_length_le (Nat.le_refl _)] at e
      have := q H1 s1
      rw [e] at this
      exact this
end

/-! ### truth, unrolled -/
abbrev s_law_truth : Stmt := topS 11
theorem sc_law_truth : FnScope ["_law_found", "_law_due"] ["_law_found", "_law_due"] (defScope s_law_truth) := ⟨rfl, rfl, rfl, by decide +kernel, rfl, by decide +kernel, by decide +kernel⟩
abbrev s_law_unrolled : Stmt := topS 12
theorem sc_law_unrolled : FnScope ["_law_run", "_law_laps", "_law_many", "_law_path", "_law_ring", "_law_turn"] ["_law_run", "_law_laps", "_law_many"] (defScope s_law_unrolled) := ⟨rfl, rfl, rfl, by decide +kernel, rfl, by decide +kernel, by decide +kernel⟩
section
variable {P : Program} {w : World} {K : PySem.W.Frag} {mg : Str → Option Value} {base : Heap}
theorem dec_bl (x y : Bool) : decide (V.bl x = V.bl y) = decide (x = y) := by
  cases x <;> cases y <;> rfl
def spTruth : Sp := fun vs H Q _ => ∃ x y : Bool, vs = [.bl x, .bl y] ∧ Q (.bl (decide (x = y))) H
theorem ok_truth {f : Addr} {fd : FuncData} (F : Fun K "_law_truth" "_law_truth" s_law_truth f fd) (T : Bi mg) : FnOk P w K mg base CX0 1 f fd ["_law_found", "_law_due"] spTruth := by
  refine F.ok sc_law_truth (fun vs H Q E h => ?_) (fun cdv A outer s H vs Q E hr h => ?_)
  · obtain ⟨x, y, rfl, _⟩ := h
    rfl
  · obtain ⟨x, y, rfl, q⟩ := h
    refine ⟨_, (pss_one (ps_ret (pe_and (pe_callB call_isi (by rfl) T.isinstance (by decide +kernel) (pa_cons (pv 0) (pa_cons (pe_bltn (v := .ty "bool") (u := .type "bool") (by rfl) T.bool (by decide +kernel) rfl) pa_nil))) (pe_one (pe_cmpR op_eq (pv 0) (pv 1) (nomark _)))))), ?_⟩
    refine ⟨_, rfl, _, _, _, _, true, rfl, .ty "bool", .base (.bl _), kit_ty (by decide +kernel), true, rfl, iteT ⟨_, rfl, _, rfl, rfl, ?_⟩⟩
    rw [dec_bl]
    exact q
/-- the ring from t on, l times; the path longer by m -/
def unP (p r : List Int) (m : Nat) : List Int := p ++ ((List.replicate (m / r.length + 1) r).flatten).take m
def unR (r : List Int) (m l : Nat) : List Int := (List.replicate l (r.drop (m % r.length) ++ r.take (m % r.length))).flatten
theorem map_flat (l : Nat) (r : List Int) : (List.replicate l (r.map V.int)).flatten = ((List.replicate l r).flatten).map V.int := by
  rw [List.map_flatten, List.map_replicate]
theorem cut_to (r : List Int) (m : Nat) : cutV (r.map V.int) none (some (m : Int)) = (r.take m).map V.int := by
  unfold cutV
  rw [HT.sIx_nat, HT.sIx_none, List.length_map, Nat.sub_zero, List.drop_zero, ← List.map_take]
  congr 1
  rw [Nat.min_def]
  split
  · rfl
  · rw [List.take_of_length_le (Nat.le_refl _), List.take_of_length_le (by omega)]
theorem cut_on (r : List Int) (m : Nat) (h : m ≤ r.length) : cutV (r.map V.int) (some (m : Int)) none = (r.drop m).map V.int := by
  unfold cutV
  rw [HT.sIx_nat, HT.sIx_none, List.length_map, Nat.min_eq_left h, ← List.map_drop, ← List.map_take]
  rw [List.take_of_length_le (by rw [List.length_drop]; exact Nat.le_refl _)]
def spUnrolled (K : PySem.W.Frag) : Sp := fun vs H Q _ => ∃ (a : Addr) (p r : List Int) (l m : Nat), vs = [.ref a, .int l, .int m] ∧ RunAt K H a p r ∧ r ≠ [] ∧ p.length ≤ 10 ∧ r.length ≤ 10 ∧ 1 ≤ l ∧ l ≤ 10 ∧ m ≤ 400 ∧
  ∀ (H' : Hp) (b : Addr), Same H H' → RunAt K H' b (unP p r m) (unR r m l) → Q (.ref b) H'
theorem ok_unrolled {f : Addr} {fd : FuncData} (F : Fun K "_law_unrolled" "_law_unrolled" s_law_unrolled f fd) (T : Bi mg) : FnOk P w K mg base CX0 1 f fd ["_law_run", "_law_laps", "_law_many"] (spUnrolled K) := by
  refine F.ok sc_law_unrolled (fun vs H Q E h => ?_) (fun cdv A outer s H vs Q E hr h => ?_)
  · obtain ⟨a, p, r, l, m, rfl, _⟩ := h
    rfl
  · obtain ⟨a, p, r, l, m, rfl, R, hne, hp, hr', l1, l2, hm, q⟩ := h
    obtain ⟨pa, ra, h1, h2, h3⟩ := R.ex
    have hr0 : 0 < r.length := List.length_pos_iff.mpr hne
    have hne' : r.map V.int ≠ [] := by simpa using hne
    have hd : m / r.length ≤ m := Nat.div_le_self _ _
    refine ⟨_, (pss_cons (ps_asg (pv 0) (pg_tup rfl (pgs_cons (pg_name (i := 3) sc_law_unrolled.nd rfl (.inl rfl)) (pgs_cons (pg_name (i := 4) sc_law_unrolled.nd rfl (.inl rfl)) pgs_nil))))
      (pss_cons (ps_set (i := 5) sc_law_unrolled.nd rfl (.inl rfl) (pe_op op_sub (pv 2) (pe_op op_mul (pe_op op_fdiv (pv 2) (pe_callB call_len_seq (by rfl) T.len PySem.boot_len (pa_cons (pv 4) pa_nil))) (pe_callB call_len_seq (by rfl) T.len PySem.boot_len (pa_cons (pv 4) pa_nil)))))
      (pss_one (ps_ret (pe_tup (pa_cons (pe_op op_catQ (pv 3) (pe_slice sl_tupQ (pe_op op_repQ (pv 4) (pe_op op_add (pe_op op_fdiv (pv 2) (pe_callB call_len_seq (by rfl) T.len PySem.boot_len (pa_cons (pv 4) pa_nil))) pe_int)) po_none (po_some (pv 2)))) (pa_cons (pe_op op_repQ (pe_op op_catQ (pe_slice sl_tupQ (pv 4) (po_some (pv 5)) po_none) (pe_slice sl_tupQ (pv 4) po_none (po_some (pv 5)))) (pv 1)) pa_nil))))))), ?_⟩
    refine ⟨_, rfl, a, _, rfl, h1, rfl, _, _, rfl, _, _, rfl, rfl, ?_⟩
    -- the turn
    refine ⟨_, rfl, _, rfl, _, rfl, ra, _, rfl, .inr h3, _, _, rfl, rfl, ⟨by rw [List.length_map]; omega, by rw [List.length_map]; omega⟩, _, rfl, ra, _, rfl, .inr h3, _, _, rfl, rfl, .inr ⟨by rw [List.length_map]; omega, by rw [List.length_map]; omega⟩, _, _, rfl, rfl, ?_⟩
    rw [List.length_map]
    have et : ((m : Int) - (m : Int) / (r.length : Int) * (r.length : Int)) = ((m % r.length : Nat) : Int) := by
      rw [Int.natCast_emod, Int.emod_def, Int.mul_comm]
    have ht : m % r.length < r.length := Nat.mod_lt _ hr0
    have ek : ((m : Int) / (r.length : Int) + 1) = ((m / r.length + 1 : Nat) : Int) := by
      rw [Int.natCast_add, Int.natCast_ediv]
      rfl
    dsimp only
    rw [et]
    refine ⟨_, rfl, _, rfl, _, rfl, _, rfl, ra, _, rfl, .inr h3, _, _, rfl, rfl, ⟨by rw [List.length_map]; omega, by rw [List.length_map]; omega⟩, _, _, rfl, rfl, ra, _, _, rfl, rfl, h3, hne', ?_, ?_, by rw [List.length_map]; omega, fun c H1 s1 hc => ?_⟩
    · rw [List.length_map, ek]
      exact Int.ofNat_le.mpr (Nat.le_add_left 1 _)
    · rw [List.length_map, ek]
      exact Int.ofNat_le.mpr (show m / r.length + 1 ≤ 1000 by omega)
    rw [List.length_map, ek, Int.toNat_natCast, map_flat] at hc
    refine ⟨_, rfl, _, rfl, c, _, rfl, hc, fun d H2 s2 hd => ?_⟩
    rw [cut_to] at hd
    refine ⟨pa, d, _, _, rfl, rfl, ssqt (s1.trans s2) h2, hd, ?_, fun e H3 s3 he => ?_⟩
    · rw [List.length_map, List.length_map, List.length_take]
      exact szOk (by omega)
    rw [← List.map_append] at he
    have s13 := (s1.trans s2).trans s3
    refine ⟨_, rfl, _, rfl, _, rfl, ra, _, rfl, ssqt s13 h3, fun g H4 s4 hg => ?_⟩
    rw [cut_on _ _ (by omega)] at hg
    refine ⟨_, rfl, _, rfl, _, rfl, ra, _, rfl, ssqt (s13.trans s4) h3, fun k H5 s5 hk => ?_⟩
    rw [cut_to] at hk
    refine ⟨g, k, _, _, rfl, rfl, ssqt s5 hg, hk, ?_, fun n H6 s6 hn => ?_⟩
    · rw [List.length_map, List.length_map, List.length_take, List.length_drop]
      exact szOk (by omega)
    rw [← List.map_append] at hn
    have ll : (r.drop (m % r.length) ++ r.take (m % r.length)).length = r.length := by
      rw [List.length_append, List.length_take, List.length_drop]
      omega
    refine ⟨_, rfl, n, _, _, rfl, rfl, hn, ?_, by omega, by omega, by rw [List.length_map]; omega, fun z H7 s7 hz => ?_⟩
    · intro e0
      have := congrArg List.length e0
      rw [List.length_map, ll] at this
      exact absurd this (by show ¬ r.length = 0; omega)
    rw [Int.toNat_natCast, map_flat] at hz
    refine ⟨by show 2 ≤ sizeLine; decide, fun b hb => ?_⟩
    have s47 := ((s4.trans s5).trans s6).trans s7
    exact q _ b ((s13.trans s47).trans (same_upd hb)) ⟨e, z, SqT.of upd_same, ssqt (s47.trans (same_upd hb)) he, ssqt (same_upd hb) hz⟩
end

/-! ### _law_drawn_run -/
abbrev s_law_drawn_run : Stmt := topS 13
theorem sc_law_drawn_run : FnScope ["_law_pool_here", "_law_some", "_law_most", "_law_wide", "_law_path", "_law_ring", "_law_k"] ["_law_pool_here", "_law_some", "_law_most", "_law_wide"] (defScope s_law_drawn_run) := ⟨rfl, rfl, rfl, by decide +kernel, rfl, by decide +kernel, by decide +kernel⟩
theorem snoc_all {α : Type} {l : List α} {x : α} {q : α → Prop} (h : ∀ y ∈ l, q y) (hx : q x) : ∀ y ∈ l ++ [x], q y := fun y hy => by
  rcases List.mem_append.mp hy with hy | hy
  · exact h y hy
  · rw [List.mem_singleton.mp hy]
    exact hx
section
variable {P : Program} {w : World} {K : PySem.W.Frag} {mg : Str → Option Value} {base : Heap}
def spDrawnRun (K : PySem.W.Frag) : Sp := fun vs H Q _ => ∃ (A : PA) (c : Nat) (l : Addr) (ns : List Int) (most wide : Nat), vs = [.ref A.p, .ref l, .int most, .int wide] ∧ Pool H A c ∧ c < 900000 ∧ H l = some (.lst (ns.map V.int)) ∧ Off A l ∧ ns ≠ [] ∧ ns.length ≤ 100 ∧ 1 ≤ most ∧ most ≤ 100 ∧ 1 ≤ wide ∧ wide ≤ 100 ∧
  ∀ (H' : Hp) (b : Addr) (p r : List Int), r ≠ [] → p.length < most → r.length ≤ wide → (∀ x ∈ p, x ∈ ns) → (∀ x ∈ r, x ∈ ns) → RunAt K H' b p r → Pool H' A (c + 2 + most + wide) → Kp A H H' → Q (.ref b) H'
theorem ok_drawnrun {f : Addr} {fd : FuncData} (F : Fun K "_law_drawn_run" "_law_drawn_run" s_law_drawn_run f fd) (T : Bi mg) (c_law_draw : Cal P w K mg base 1 "_law_draw" ["_law_pool_here", "_law_many"] spDraw) : FnOk P w K mg base CX0 2 f fd ["_law_pool_here", "_law_some", "_law_most", "_law_wide"] (spDrawnRun K) := by
  refine F.ok sc_law_drawn_run (fun vs H Q E h => ?_) (fun cdv A outer s H vs Q E hr h => ?_)
  · obtain ⟨A, c, l, ns, most, wide, rfl, _⟩ := h
    rfl
  · obtain ⟨PL, c, l, ns, most, wide, rfl, P0, hc, hl, ol, hne, hl1, m1, m2, w1, w2, q⟩ := h
    have hn0 : 0 < ns.length := List.length_pos_iff.mpr hne
    have pick1 : ∀ d : Int, 0 ≤ d → d < ns.length → ∃ x, (ns.map V.int)[d.toNat]? = some (.int x) ∧ x ∈ ns := fun d d0 d1 => ⟨ns[d.toNat]'(by omega), get_map (List.getElem?_eq_getElem _), List.getElem_mem _⟩
    refine ⟨_, (pss_cons (ps_set (i := 4) sc_law_drawn_run.nd rfl (.inl rfl) (pe_callTy call_tuple_of (by rfl) T.tuple (by decide +kernel) (pa_cons (pe_lc (own := [("_law_k", 6)]) (g := gName 6) rfl sc_law_drawn_run.nd (pi_range1 (by rfl) T.range (pa_cons (pe_call c_law_draw.G hr (by rfl) c_law_draw.g c_law_draw.kp c_law_draw.b .nil pass0 (pa_cons (pv 0) (pa_cons (pv 2) pa_nil))) pa_nil)) (blkOk_by (own := [("_law_k", 6)]) (N := ["_law_pool_here", "_law_some", "_law_most", "_law_wide", "_law_path", "_law_ring", "_law_k"]) (sc := defScope s_law_drawn_run) (by decide +kernel)) (fun _ _ _ _ _ => (pg_name (i := 6) sc_law_drawn_run.nd rfl (.inl rfl))) (fun _ _ _ _ _ => pts_nil) (fun _ _ _ _ _ => (pe_ix (ixL K) (pv 1) (pe_call c_law_draw.G hr (by rfl) c_law_draw.g c_law_draw.kp c_law_draw.b .nil pass0 (pa_cons (pv 0) (pa_cons (pe_callB (lenS K) (by rfl) T.len PySem.boot_len (pa_cons (pv 1) pa_nil)) pa_nil))) (fun _ _ => rfl)))) pa_nil)))
      (pss_cons (ps_set (i := 5) sc_law_drawn_run.nd rfl (.inl rfl) (pe_callTy call_tuple_of (by rfl) T.tuple (by decide +kernel) (pa_cons (pe_lc (own := [("_law_k", 6)]) (g := gName 6) rfl sc_law_drawn_run.nd (pi_range1 (by rfl) T.range (pa_cons (pe_op op_add pe_int (pe_call c_law_draw.G hr (by rfl) c_law_draw.g c_law_draw.kp c_law_draw.b .nil pass0 (pa_cons (pv 0) (pa_cons (pv 3) pa_nil)))) pa_nil)) (blkOk_by (own := [("_law_k", 6)]) (N := ["_law_pool_here", "_law_some", "_law_most", "_law_wide", "_law_path", "_law_ring", "_law_k"]) (sc := defScope s_law_drawn_run) (by decide +kernel)) (fun _ _ _ _ _ => (pg_name (i := 6) sc_law_drawn_run.nd rfl (.inl rfl))) (fun _ _ _ _ _ => pts_nil) (fun _ _ _ _ _ => (pe_ix (ixL K) (pv 1) (pe_call c_law_draw.G hr (by rfl) c_law_draw.g c_law_draw.kp c_law_draw.b .nil pass0 (pa_cons (pv 0) (pa_cons (pe_callB (lenS K) (by rfl) T.len PySem.boot_len (pa_cons (pv 1) pa_nil)) pa_nil))) (fun _ _ => rfl)))) pa_nil)))
      (pss_one (ps_ret (pe_tup (pa_cons (pv 4) (pa_cons (pv 5) pa_nil))))))), ?_⟩
    refine ⟨_, rfl, _, rfl, PL, c, _, rfl, P0, by omega, by omega, by omega, fun H1 n n0 n1 P1 K1 => ⟨n, rfl, by omega, by omega, fun D hD =>
      lc_rangeP (a := PL) 1 (fun i acc => ∃ gs : List Int, acc = gs.map V.int ∧ gs.length = i ∧ ∀ x ∈ gs, x ∈ ns) P1 hD (by omega) ⟨[], rfl, rfl, fun _ h => absurd h List.not_mem_nil⟩ (fun _ => rfl) ?_ ?_⟩⟩
    · rintro i H2 acc hi P2 K2 ⟨gs, rfl, hg, hm⟩ _ N1 N2 k1 k2
      have hl2 := (K1.trans K2) _ _ hl ol
      refine iteT (B := False) ⟨_, rfl, _, rfl, _, rfl, l, _, rfl, .inl (SqL.of hl2), PL, _, _, rfl, P2, by omega, by rw [List.length_map]; omega, by rw [List.length_map]; omega, fun H3 d d0 d1 P3 K3 => ?_⟩
      rw [List.length_map] at d1
      obtain ⟨x, hx, hxm⟩ := pick1 d d0 d1
      exact ⟨l, _, _, _, rfl, rfl, SqL.of (K3 _ _ hl2 ol), at_of (by omega) hx, k1 _ _ P3 K3 ⟨gs ++ [x], by rw [List.map_append]; rfl, by rw [List.length_append, hg]; rfl, snoc_all hm hxm⟩⟩
    · rintro H2 acc P2 K2 hD2 _ ⟨gs, rfl, hg, hm⟩ oD
      refine ⟨D, _, rfl, .inl ⟨SqL.of hD2, fun t ht => ?_⟩⟩
      have P2' : Pool (L2.upd H2 t (.tup (gs.map V.int))) PL (c + 1 + n.toNat * 1) := P2.upd (P2.off ht)
      have K2' : Kp PL H (L2.upd H2 t (.tup (gs.map V.int))) := (K1.trans K2).trans (skp (same_upd ht))
      have hT : SqT K (L2.upd H2 t (.tup (gs.map V.int))) t (gs.map V.int) := SqT.of upd_same
      generalize L2.upd H2 t (.tup (gs.map V.int)) = H3 at P2' K2' hT ⊢
      refine ⟨_, rfl, _, rfl, PL, _, _, rfl, P2', by omega, by omega, by omega, fun H4 n2 n20 n21 P4 K4 => ⟨_, _, rfl, rfl, 1 + n2, rfl, by omega, by omega, fun D2 hD2' =>
        lc_rangeP (a := PL) 1 (fun i acc => ∃ gs : List Int, acc = gs.map V.int ∧ gs.length = i ∧ ∀ x ∈ gs, x ∈ ns) P4 hD2' (by omega) ⟨[], rfl, rfl, fun _ h => absurd h List.not_mem_nil⟩ (fun _ => rfl) ?_ ?_⟩⟩
      · rintro i H5 acc hi P5 K5 ⟨gs2, rfl, hg2, hm2⟩ _ N1 N2 k1 k2
        have hl2 := ((K2'.trans K4).trans K5) _ _ hl ol
        refine iteT (B := False) ⟨_, rfl, _, rfl, _, rfl, l, _, rfl, .inl (SqL.of hl2), PL, _, _, rfl, P5, by omega, by rw [List.length_map]; omega, by rw [List.length_map]; omega, fun H6 d d0 d1 P6 K6 => ?_⟩
        rw [List.length_map] at d1
        obtain ⟨x, hx, hxm⟩ := pick1 d d0 d1
        exact ⟨l, _, _, _, rfl, rfl, SqL.of (K6 _ _ hl2 ol), at_of (by omega) hx, k1 _ _ P6 K6 ⟨gs2 ++ [x], by rw [List.map_append]; rfl, by rw [List.length_append, hg2]; rfl, snoc_all hm2 hxm⟩⟩
      · rintro H5 acc P5 K5 hD5 _ ⟨gs2, rfl, hg2, hm2⟩ oD2
        refine ⟨D2, _, rfl, .inl ⟨SqL.of hD5, fun t2 ht2 => ?_⟩⟩
        refine ⟨_, rfl, _, rfl, by show 2 ≤ sizeLine; decide, fun b hb => ?_⟩
        have P6 := P5.upd (o := .tup (gs2.map V.int)) (P5.off ht2)
        have sb := same_upd (o := HO.tup [.ref t, .ref t2]) hb
        have s2 := same_upd (o := HO.tup (gs2.map V.int)) ht2
        refine q _ b gs gs2 ?_ (by omega) (by omega) hm hm2 ⟨t, t2, SqT.of upd_same, ?_, ?_⟩ ?_ ?_
        · intro e
          rw [e] at hg2
          simp at hg2
          omega
        · exact (simm (s2.trans sb)).sq ((P4.imm K5).sq ((P2'.imm K4).sq hT))
        · exact ssqt sb (SqT.of upd_same)
        · exact (P6.upd (P6.off hb)).mono (by omega)
        · exact ((K2'.trans K4).trans K5).trans (skp (s2.trans sb))
end

/-! ### lists of numbers compared -/
theorem dpa_ints {K : PySem.W.Frag} {H : Hp} : ∀ ns : List Int, DpAll K H (ns.map V.int) (ns.map PyData.int)
  | [] => .nil
  | x :: r => .cons (.int x) (dpa_ints r)
theorem dp_ints {K : PySem.W.Frag} {H : Hp} {a : Addr} {ns : List Int} (h : SqL K H a (ns.map V.int)) : Dp K H (.ref a) (.list (ns.map PyData.int)) := .lst h (dpa_ints ns)
theorem dp_intsT {K : PySem.W.Frag} {H : Hp} {a : Addr} {ns : List Int} (h : SqT K H a (ns.map V.int)) : Dp K H (.ref a) (.tuple (ns.map PyData.int)) := .tup h (dpa_ints ns)
theorem can_ints : ∀ ns : List Int, PyData.canLayAll0 (ns.map PyData.int) = true
  | [] => rfl
  | x :: r => by
    show (PyData.canLay0 (.int x) && PyData.canLayAll0 (r.map PyData.int)) = true
    rw [can_ints r]
    rfl
theorem dep_ints : ∀ ns : List Int, PyData.depthAll (ns.map PyData.int) = 0
  | [] => rfl
  | x :: r => by
    show max (PyData.depth (.int x)) (PyData.depthAll (r.map PyData.int)) = 0
    rw [dep_ints r]
    rfl
theorem shaped_ints (ns : List Int) : SeqAt.shaped (.list (ns.map PyData.int)) = true := by
  unfold SeqAt.shaped
  rw [show PyData.canLay0 (.list (ns.map PyData.int)) = true from can_ints ns, show PyData.depth (.list (ns.map PyData.int)) = 0 + 1 by rw [← dep_ints ns] <;> rfl]
  rfl
theorem shaped_intsT (ns : List Int) : SeqAt.shaped (.tuple (ns.map PyData.int)) = true := by
  unfold SeqAt.shaped
  rw [show PyData.canLay0 (.tuple (ns.map PyData.int)) = true from can_ints ns, show PyData.depth (.tuple (ns.map PyData.int)) = 0 + 1 by rw [← dep_ints ns] <;> rfl]
  rfl
theorem eqva_ints : ∀ ns ms : List Int, PyData.eqvAll (ns.map PyData.int) (ms.map PyData.int) = decide (ns = ms)
  | [], [] => rfl
  | [], _ :: _ => rfl
  | _ :: _, [] => rfl
  | x :: r, y :: t => by
    show ((x == y) && PyData.eqvAll (r.map PyData.int) (t.map PyData.int)) = _
    rw [eqva_ints r t]
    by_cases h : x = y
    · by_cases h2 : r = t
      · subst h h2
        simp
      · simp [h, h2]
    · simp [h]
theorem eqv_ints (ns ms : List Int) : PyData.eqv (.list (ns.map PyData.int)) (.list (ms.map PyData.int)) = decide (ns = ms) := eqva_ints ns ms
theorem eqv_intsT (ns ms : List Int) : PyData.eqv (.tuple (ns.map PyData.int)) (.tuple (ms.map PyData.int)) = decide (ns = ms) := eqva_ints ns ms

/-! ### the law's wishes, ring, machine -/
theorem good_unborne : GoodName (Str.ofString "unborne") := ⟨by decide +kernel, by decide +kernel, by decide +kernel, by decide +kernel⟩
abbrev s_law_wishes : Stmt := topS 10
theorem sc_law_wishes : FnScope ["_law_pool_here", "_law_names_here", "_law_most", "_law_some", "_law_wants", "_law_k", "_law_when"] ["_law_pool_here", "_law_names_here", "_law_most"] (defScope s_law_wishes) := ⟨rfl, rfl, rfl, by decide +kernel, rfl, by decide +kernel, by decide +kernel⟩
abbrev s_law_fair_ring : Stmt := topS 14
theorem sc_law_fair_ring : FnScope ["_law_machine", "_law_ring", "_law_wants", "_law_when", "_law_then", "_law_asked", "_law_one"] ["_law_machine", "_law_ring", "_law_wants"] (defScope s_law_fair_ring) := ⟨rfl, rfl, rfl, by decide +kernel, rfl, by decide +kernel, by decide +kernel⟩
section
variable {P : Program} {w : World} {K : PySem.W.Frag} {mg : Str → Option Value} {base : Heap}
def spWs (K : PySem.W.Frag) : Sp := fun vs H Q _ => ∃ (a : PA) (c : Nat) (l : Addr) (zs : List Str) (n : Nat), vs = [.ref a.p, .ref l, .int n] ∧ Pool H a c ∧ c < 700000 ∧ H l = some (.lst (zs.map V.str)) ∧ Off a l ∧ (∀ z ∈ zs, GoodName z) ∧ zs.length ≤ 8 ∧ n ≤ 8 ∧
  ∀ (H' : Hp) (t : Addr) (ws : List (Str × Str)), Pool H' a (c + 1 + n * 2) → Kp a H H' → WishAt K H' t ws → ws.length ≤ n → (∀ x ∈ ws, GoodName x.2) → Q (.ref t) H'
theorem ok_ws {f : Addr} {fd : FuncData} (F : Fun K "_law_wishes" "_law_wishes" s_law_wishes f fd) (T : Bi mg) (c_law_draw : Cal P w K mg base 1 "_law_draw" ["_law_pool_here", "_law_many"] spDraw) : FnOk P w K mg base CX0 2 f fd ["_law_pool_here", "_law_names_here", "_law_most"] (spWs K) := by
  refine F.ok sc_law_wishes (fun vs H Q E h => ?_) (fun cdv A outer s H vs Q E hr h => ?_)
  · obtain ⟨a, c, l, zs, n, rfl, _⟩ := h
    rfl
  · obtain ⟨a, c, l, zs, n, rfl, PP, hc, hl, ol, gz, lz, hn, q⟩ := h
    refine ⟨_, (pss_cons (ps_set (i := 3) sc_law_wishes.nd rfl (.inl rfl) (pe_op op_cat (pe_lst (pa_cons pe_str (pa_cons pe_str (pa_cons pe_str pa_nil)))) (pv 1)))
      (pss_cons (ps_set (i := 4) sc_law_wishes.nd rfl (.inl rfl) (pe_lst pa_nil))
      (pss_cons (ps_for PassesOwn.never rfl (pi_range1 (by rfl) T.range (pa_cons (pe_call c_law_draw.G hr (by rfl) c_law_draw.g c_law_draw.kp c_law_draw.b .nil pass0 (pa_cons (pv 0) (pa_cons (pe_op op_add (pv 2) pe_int) pa_nil))) pa_nil)) (pg_name (i := 5) sc_law_wishes.nd rfl (.inl rfl))
        (pss_cons (ps_set (i := 6) sc_law_wishes.nd rfl (.inl rfl) (pe_ix ix_list (pv 3) (pe_call c_law_draw.G hr (by rfl) c_law_draw.g c_law_draw.kp c_law_draw.b .nil pass0 (pa_cons (pv 0) (pa_cons (pe_callB call_len_seq (by rfl) T.len PySem.boot_len (pa_cons (pv 3) pa_nil)) pa_nil))) (fun _ _ => rfl)))
        (pss_one (ps_expr (pe_bm PySem.F.plainAttrs_list PySem.F.slot_list_append PySem.F.type_list_append mt_append (pv 4) (pa_cons (pe_tup (pa_cons (pv 6) (pa_cons (pe_ix ix_list (pv 3) (pe_op op_add pe_int (pe_call c_law_draw.G hr (by rfl) c_law_draw.g c_law_draw.kp c_law_draw.b .nil pass0 (pa_cons (pv 0) (pa_cons (pe_op op_sub (pe_callB call_len_seq (by rfl) T.len PySem.boot_len (pa_cons (pv 3) pa_nil)) pe_int) pa_nil)))) (fun _ _ => rfl)) pa_nil))) pa_nil))))))
      (pss_one (ps_ret (pe_callTy call_tuple_of (by rfl) T.tuple (by decide +kernel) (pa_cons (pv 4) pa_nil))))))), ?_⟩
    refine ⟨by show 3 ≤ sizeLine; decide, fun d hd => ⟨_, rfl, d, l, _, _, rfl, rfl, upd_same, (same_upd hd) _ _ hl, szOk (by rw [List.length_map]; show 3 + zs.length ≤ _; omega), fun so hso => ⟨Nat.zero_le _, fun lw hlw => ?_⟩⟩⟩
    have P1 := (PP.same (same_upd (o := .lst [.str "", .str "", .str "unborne"]) hd)).same (same_upd (o := .lst ([.str "", .str "", .str "unborne"] ++ zs.map V.str)) hso)
    have k1 : Kp a H (upd (upd H d (.lst [.str "", .str "", .str "unborne"])) so (.lst ([.str "", .str "", .str "unborne"] ++ zs.map V.str))) := (skp (same_upd hd)).trans (skp (same_upd hso))
    have oso := (PP.same (same_upd (o := .lst [.str "", .str "", .str "unborne"]) hd)).off hso
    have hs1 : upd (upd H d (.lst [.str "", .str "", .str "unborne"])) so (.lst ([.str "", .str "", .str "unborne"] ++ zs.map V.str)) so = some (.lst ((Str.ofString "" :: Str.ofString "" :: Str.ofString "unborne" :: zs).map V.str)) := upd_same
    generalize upd (upd H d (.lst [.str "", .str "", .str "unborne"])) so (.lst ([.str "", .str "", .str "unborne"] ++ zs.map V.str)) = H1 at P1 k1 hs1 hlw ⊢
    have olw := P1.off hlw
    have hlw0 := k1.free hlw olw
    refine ⟨_, rfl, _, rfl, _, _, rfl, rfl, a, c, ((n + 1 : Nat) : Int), by rw [Int.natCast_add] <;> rfl, P1.upd olw, by omega, by omega, by omega, fun H2 r r0 r1 P2 k2 => ⟨r, rfl, by omega, by omega, for_range (lo := 0) (n := r.toNat) (fun i σ H' => ∃ (wa : List Addr) (ws : List (Str × Str)) (y y2 : Option V),
      σ = [some (.ref a.p), some (.ref l), some (.int n), some (.ref so), some (.ref lw), y, y2] ∧ Pool H' a (c + 1 + i * 2) ∧ Kp a H H' ∧ H' so = some (.lst ((Str.ofString "" :: Str.ofString "" :: Str.ofString "unborne" :: zs).map V.str)) ∧ H' lw = some (.lst (wa.map V.ref)) ∧
      Each (fun b (x : Str × Str) => SqT K H' b [.str x.1, .str x.2]) wa ws ∧ ws.length = i ∧ (∀ x ∈ ws, GoodName x.2))
      ⟨[], [], none, none, rfl, P2, (k1.mut hlw0).trans k2, k2 _ _ ((same_upd hlw) _ _ hs1) oso, k2 _ _ upd_same olw, .nil, rfl, fun _ h => absurd h List.not_mem_nil⟩ ?_ ?_⟩⟩
    · rintro i σ H3 hi ⟨wa, ws, y, y2, rfl, P3, k3, hs3, hw3, e3, l3, g3⟩
      have i4 : i < 8 := by omega
      have hlen : ((Str.ofString "" :: Str.ofString "" :: Str.ofString "unborne" :: zs).map V.str).length = zs.length + 3 := by rw [List.length_map] <;> rfl
      have all : ∀ (j : Nat), j < zs.length + 3 → ∃ z, ((Str.ofString "" :: Str.ofString "" :: Str.ofString "unborne" :: zs).map V.str)[j]? = some (.str z) ∧ (1 < j → GoodName z) := by
        intro j hj
        match j, hj with
        | 0, _ => exact ⟨_, rfl, fun h => absurd h (by decide)⟩
        | 1, _ => exact ⟨_, rfl, fun h => absurd h (by decide)⟩
        | 2, _ => exact ⟨_, rfl, fun _ => good_unborne⟩
        | j + 3, hj =>
          have hj' : j < zs.length := by omega
          exact ⟨zs[j], get_map (f := V.str) (xs := Str.ofString "" :: Str.ofString "" :: Str.ofString "unborne" :: zs) (by show zs[j]? = _; exact List.getElem?_eq_getElem hj'), fun _ => gz zs[j] (List.getElem_mem hj')⟩
      refine ⟨_, rfl, _, rfl, _, rfl, so, _, rfl, .inl (SqL.of hs3), a, _, ((zs.length + 3 : Nat) : Int), by rw [hlen] <;> rfl, P3, by omega, by omega, by omega, fun H4 r4 r40 r41 P4 k4 => ?_⟩
      obtain ⟨j, rfl⟩ : ∃ j : Nat, r4 = (j : Int) := ⟨r4.toNat, by omega⟩
      obtain ⟨z1, hz1, _⟩ := all j (by omega)
      have hs4 := k4 _ _ hs3 oso
      have hw4 := k4 _ _ hw3 olw
      refine ⟨so, _, _, _, rfl, rfl, SqL.of hs4, atI_nat hz1, ?_⟩
      refine ⟨_, rfl, .inl ⟨rfl, _, SqL.of hw4⟩, _, rfl, _, rfl, _, rfl, _, rfl, so, _, rfl, .inl (SqL.of hs4), _, _, rfl, rfl, a, _, ((zs.length + 1 : Nat) : Int), ?_, P4, by omega, by omega, by omega, fun H5 r5 r50 r51 P5 k5 => ?_⟩
      · rw [hlen]
        show [V.ref a.p, V.int (((zs.length + 3 : Nat) : Int) - 2)] ++ [] = _
        rw [show ((zs.length + 3 : Nat) : Int) - 2 = ((zs.length + 1 : Nat) : Int) by omega]
        rfl
      · obtain ⟨j2, rfl⟩ : ∃ j : Nat, r5 = (j : Int) := ⟨r5.toNat, by omega⟩
        obtain ⟨z2, hz2, gz2⟩ := all (2 + j2) (by omega)
        have hs5 := k5 _ _ hs4 oso
        have hw5 := k5 _ _ hw4 olw
        refine ⟨_, _, rfl, rfl, so, _, _, _, rfl, rfl, SqL.of hs5, at_of (j := 2 + j2) (by omega) hz2, by show 2 ≤ sizeLine; decide, fun t ht => ?_⟩
        have s6 : Same H5 (upd H5 t (.tup [.str z1, .str z2])) := same_upd ht
        have wl := e3.len
        refine ⟨lw, _, _, rfl, rfl, s6 _ _ hw5, szLt (by rw [List.length_map]; omega), ?_⟩
        have tw : t ≠ lw := (ne_of_none hw5 ht).symm
        have swl : so ≠ lw := fun e => by
          rw [← e, hs5] at hw5
          have := HO.lst.inj (Option.some.inj hw5)
          cases wa <;> cases this
        have e36 := (((P3.imm k4).trans (P4.imm k5)).trans (simm s6)).trans (Imm.list (o := .lst (wa.map V.ref ++ [.ref t])) (s6 _ _ hw5))
        refine ⟨wa ++ [t], ws ++ [(z1, z2)], some (.int (0 + i)), some (.str z1), rfl, ?_, (((k3.trans k4).trans k5).trans (skp s6)).mut hlw0, ?_, ?_, (e3.imp fun _ _ h => e36.sq h).snoc (a := t) (x := (z1, z2)) (SqT.of (by rw [upd_ne tw, upd_same])), ?_, ?_⟩
        · rw [show c + 1 + (i + 1) * 2 = c + 1 + i * 2 + 1 + 1 by omega]
          exact (P5.same s6).upd olw
        · rw [upd_ne swl]
          exact s6 _ _ hs5
        · rw [upd_same, List.map_append]
          rfl
        · rw [List.length_append, l3]
          rfl
        · exact snoc_all g3 (gz2 (by omega))
    · rintro σ H3 ⟨wa, ws, y, y2, rfl, P3, k3, hs3, hw3, e3, l3, g3⟩
      refine ⟨_, rfl, lw, _, rfl, .inl ⟨SqL.of hw3, fun t ht => ?_⟩⟩
      exact q _ t ws ((P3.same (same_upd ht)).mono (by omega)) (k3.trans (skp (same_upd ht))) ⟨wa, SqT.of upd_same, e3.imp fun _ _ h => (Imm.new ht).sq h⟩ (by omega) g3
theorem eqv_nil (ns : List Int) : PyData.eqv (.list (ns.map PyData.int)) (.list (([] : List Int).map PyData.int)) = decide (ns = []) := by
  cases ns with
  | nil => rfl
  | cons x r => rfl
theorem filter_snoc (q : Int → Bool) {l : List Int} {i : Nat} {z : Int} (h : l[i]? = some z) : (l.take (i + 1)).filter q = if q z = true then (l.take i).filter q ++ [z] else (l.take i).filter q := by
  rw [List.take_succ, h, List.filter_append]
  show _ ++ [z].filter q = _
  by_cases e : q z = true
  · rw [if_pos e, List.filter_cons, if_pos e]
    rfl
  · rw [if_neg e, List.filter_cons, if_neg e]
    exact List.append_nil _
theorem filter_any {q : Int → Bool} {l : List Int} : l.filter q = [] ↔ l.any q = false := by
  rw [List.filter_eq_nil_iff, List.any_eq_false]
theorem brs_in {marks : List (List Str)} {z : Str} (h : z ≠ Str.ofString "") (x : Int) : brs marks z x = decide (z ∈ marks.getD x.toNat []) := by
  unfold brs
  rw [decide_eq_false h, Bool.false_or]
def spFairRing (K : PySem.W.Frag) : Sp := fun vs H Q _ => ∃ (m a t : Addr) (steps : List (List Int)) (marks : List (List Str)) (r : List Int) (ws : List (Str × Str)), vs = [.ref m, .ref a, .ref t] ∧ MachAt K H m steps marks ∧ SqT K H a (r.map V.int) ∧ WishAt K H t ws ∧
  (∀ x ∈ r, 0 ≤ x ∧ x < marks.length) ∧ r.length ≤ 1000 ∧ (∀ x ∈ ws, x.2 ≠ Str.ofString "") ∧ ∀ H', Same H H' → Q (.bl (fairB marks r ws)) H'
theorem ok_fairring {f : Addr} {fd : FuncData} (F : Fun K "_law_fair_ring" "_law_fair_ring" s_law_fair_ring f fd) (T : Bi mg) : FnOk P w K mg base CX0 1 f fd ["_law_machine", "_law_ring", "_law_wants"] (spFairRing K) := by
  refine F.ok sc_law_fair_ring (fun vs H Q E h => ?_) (fun cdv A outer s H vs Q E hr h => ?_)
  · obtain ⟨m, a, t, steps, marks, r, ws, rfl, _⟩ := h
    rfl
  · obtain ⟨m, ra, t, steps, marks, r, ws, rfl, M, r3, ⟨wa, hw, ew⟩, hb, hl, hne, q⟩ := h
    obtain ⟨sA, kA, sa, ka, h1, h2, h3, h4, h5⟩ := M.ex
    have row : ∀ x ∈ r, ∃ (j : Nat) (b : Addr), x = (j : Int) ∧ (ka.map V.ref)[j]? = some (.ref b) ∧ SqT K H b ((marks.getD x.toNat []).map V.str) := fun x hx => by
      obtain ⟨x0, x1⟩ := hb x hx
      obtain ⟨b, e1, e2⟩ := h5.getx (i := x.toNat) (x := marks.getD x.toNat []) (by
        rw [List.getD_eq_getElem?_getD, List.getElem?_eq_getElem (by omega)]
        rfl)
      exact ⟨x.toNat, b, by omega, get_map e1, e2⟩
    refine ⟨_, (pss_cons (ps_for PassesOwn.never rfl (pi_tup (pv 2)) (pg_tup rfl (pgs_cons (pg_name (i := 3) sc_law_fair_ring.nd rfl (.inr rfl)) (pgs_cons (pg_name (i := 4) sc_law_fair_ring.nd rfl (.inr rfl)) pgs_nil)))
        (pss_cons (ps_setLc (i := 5) (own := [("_law_one", 6)]) (g := gName 6) (by rfl) sc_law_fair_ring.nd rfl rfl (sw_true rfl rfl rfl (by decide +kernel)) (pi_tup (pv 1)) (blkOk_by (own := [("_law_one", 6)]) (N := ["_law_machine", "_law_ring", "_law_wants", "_law_when", "_law_then", "_law_asked", "_law_one"]) (sc := defScope s_law_fair_ring) (by decide +kernel)) (fun _ _ _ _ _ => (pg_name (i := 6) sc_law_fair_ring.nd rfl (.inl rfl))) (fun _ _ _ _ _ => (pts_one (PW.pt (pw_or (pt_cmpR op_eq (pv 3) pe_str (nomark _)) (pw_or1 (pt_cmpR (inS K) (pv 3) (pe_ix (ixT K) (pe_ix (ixT K) (pv 0) pe_int (fun _ _ => rfl)) (pv 6) (fun _ _ => rfl)) (by rfl))))))) (fun _ _ _ _ _ => (pv 6)))
        (pss_one (ps_if (PW.pt (pw_and (pt_cmpR op_gt (pe_callB call_len_seq (by rfl) T.len PySem.boot_len (pa_cons (pv 5) pa_nil)) pe_int (nomark _)) (pw_and1 (pt_cmpR (op_eqD hr.units) (pe_lc (own := [("_law_one", 6)]) (g := gName 6) rfl sc_law_fair_ring.nd (pi_tup (pv 1)) (blkOk_by (own := [("_law_one", 6)]) (N := ["_law_machine", "_law_ring", "_law_wants", "_law_when", "_law_then", "_law_asked", "_law_one"]) (sc := defScope s_law_fair_ring) (by decide +kernel)) (fun _ _ _ _ _ => (pg_name (i := 6) sc_law_fair_ring.nd rfl (.inl rfl))) (fun _ _ _ _ _ => (pts_one (pt_cmpR (inS K) (pv 4) (pe_ix (ixT K) (pe_ix (ixT K) (pv 0) pe_int (fun _ _ => rfl)) (pv 6) (fun _ _ => rfl)) (by rfl)))) (fun _ _ _ _ _ => (pv 6))) (pe_lst pa_nil) (nomark _)))))
          (pss_one (ps_ret pe_bl))
          pss_nil))))
      (pss_one (ps_ret pe_bl))), ?_⟩
    refine ⟨_, rfl, t, rfl, ⟨_, hw⟩, for_tup (K := K) (a := t) (xs := wa.map V.ref) (fun i σ H' => ∃ y3 y4 y5 : Option V, σ = [some (.ref m), some (.ref ra), some (.ref t), y3, y4, y5, none] ∧ Same H H' ∧ fairB marks r ws = fairB marks r (ws.drop i))
      ⟨none, none, none, rfl, Same.refl _, rfl⟩ (fun i σ H' _ ⟨_, _, _, _, s1, _⟩ => ssqt s1 hw) ?_ ?_⟩
    · rintro i x σ H1 hx ⟨y3, y4, y5, rfl, s1, e⟩
      obtain ⟨b, hb1, rfl⟩ := ref_get hx
      obtain ⟨⟨wh, th⟩, hwi, htw⟩ := ew.get hb1
      have nth : th ≠ Str.ofString "" := hne _ (List.mem_of_getElem? hwi)
      have ed : ws.drop i = (wh, th) :: ws.drop (i + 1) := by
        obtain ⟨hi, e0⟩ := List.getElem?_eq_some_iff.mp hwi
        rw [List.drop_eq_getElem_cons hi, e0]
      rw [ed] at e
      have e' : fairB marks r ws = ((!(r.any (brs marks wh)) || r.any (brs marks th)) && fairB marks r (ws.drop (i + 1))) := e
      refine ⟨b, _, rfl, ssqt s1 htw, rfl, _, _, rfl, _, _, rfl, rfl, ?_⟩
      refine ⟨_, rfl, ra, rfl, ⟨_, ssqt s1 r3⟩, fun D hD => lc_tupS (K := K) (a := ra) (xs := r.map V.int) (fun i acc => acc = ((r.take i).filter (brs marks wh)).map V.int) (ssqt s1 r3) hD (by rw [List.length_map]; omega) rfl (fun _ => rfl) ?_ ?_⟩
      · intro j x H2 acc hx s2 hacc _ N1 N2 k1 k2
        obtain ⟨z, hz, rfl⟩ := map_get hx
        obtain ⟨jz, bz, ez, hrow, hbz⟩ := row z (List.mem_of_getElem? hz)
        have yes : brs marks wh z = true → N1 (.int z) H2 := fun e => k1 _ _ (Same.refl _) (by
          rw [filter_snoc _ hz, if_pos e, List.map_append, hacc]
          rfl)
        have no : brs marks wh z = false → N2 H2 := fun e => k2 _ (Same.refl _) (by rw [filter_snoc _ hz, if_neg (by rw [e]; decide), hacc])
        refine ⟨_, rfl, rfl, _, rfl, ite2 (fun e => iteT ⟨_, rfl, yes ?_⟩) (fun e => ?_)⟩
        · rw [dec_str] at e
          unfold brs
          rw [e, Bool.true_or]
        · rw [dec_str] at e
          have n1 : decide (wh = Str.ofString "") = false := by simpa using e
          have s12 := s1.trans s2
          refine ⟨_, rfl, _, rfl, m, _, 1, .ref kA, rfl, rfl, ssqt s12 h1, at_of (j := 1) rfl rfl, _, rfl, kA, _, _, .ref bz, rfl, rfl, ssqt s12 h3, at_of (j := jz) ez hrow, bz, _, rfl, .inr (ssqt s12 hbz), rfl, flat_str _, _, rfl, ?_⟩
          rw [inV_str]
          refine ite2 (fun e2 => ⟨_, rfl, yes ?_⟩) (fun e2 => no ?_)
          · unfold brs
            rw [n1, Bool.false_or]
            exact e2
          · unfold brs
            rw [n1, Bool.false_or]
            exact Bool.eq_false_iff.mpr e2
      intro H2 acc s2 hD2 _ hacc
      rw [List.length_map, List.take_of_length_le (Nat.le_refl _)] at hacc
      subst hacc
      have s12 := s1.trans s2
      refine ⟨_, rfl, D, _, rfl, .inl (SqL.of hD2), _, _, rfl, rfl, _, rfl, ite2 (fun e1 => ?_) (fun e1 => iteF ?_)⟩
      · have e1' : r.any (brs marks wh) = true := by
          cases ea : r.any (brs marks wh) with
          | true => rfl
          | false =>
            rw [filter_any.mpr ea] at e1
            exact absurd e1 (by decide)
        rw [e1'] at e'
        refine ⟨_, rfl, ra, rfl, ⟨_, ssqt s12 r3⟩, fun D2 hD2' => lc_tupS (K := K) (a := ra) (xs := r.map V.int) (fun i acc => acc = ((r.take i).filter (brs marks th)).map V.int) (ssqt s12 r3) hD2' (by rw [List.length_map]; omega) rfl (fun _ => rfl) ?_ ?_⟩
        · intro j x H3 acc hx s3 hacc _ N1 N2 k1 k2
          obtain ⟨z, hz, rfl⟩ := map_get hx
          obtain ⟨jz, bz, ez, hrow, hbz⟩ := row z (List.mem_of_getElem? hz)
          have s13 := s12.trans s3
          refine ⟨_, rfl, _, rfl, m, _, 1, .ref kA, rfl, rfl, ssqt s13 h1, at_of (j := 1) rfl rfl, _, rfl, kA, _, _, .ref bz, rfl, rfl, ssqt s13 h3, at_of (j := jz) ez hrow, bz, _, rfl, .inr (ssqt s13 hbz), rfl, flat_str _, _, rfl, ?_⟩
          rw [inV_str]
          refine ite2 (fun e2 => ⟨_, rfl, k1 _ _ (Same.refl _) ?_⟩) (fun e2 => k2 _ (Same.refl _) ?_)
          · rw [filter_snoc _ hz, if_pos (by rw [brs_in nth]; exact e2), List.map_append, hacc]
            rfl
          · rw [filter_snoc _ hz, if_neg (by rw [brs_in nth]; exact e2), hacc]
        intro H3 acc s3 hD3 _ hacc
        rw [List.length_map, List.take_of_length_le (Nat.le_refl _)] at hacc
        subst hacc
        refine ⟨by show 0 ≤ sizeLine; decide, fun u hu => ⟨_, _, dp_ints (SqL.of (same_upd hu _ _ hD3)), dp_ints (ns := []) (SqL.of upd_same), shaped_ints _, shaped_ints _, _, rfl, ?_⟩⟩
        rw [eqv_nil]
        have s4 := (s12.trans s3).trans (same_upd (o := HO.lst []) hu)
        refine ite2 (fun e2 => ?_) (fun e2 => ?_)
        · have e2' : r.any (brs marks th) = false := filter_any.mp (of_decide_eq_true e2)
          rw [e2'] at e'
          have := q _ s4
          rw [e'] at this
          exact this
        · have e2' : r.any (brs marks th) = true := by
            cases ea : r.any (brs marks th) with
            | true => rfl
            | false => exact absurd (decide_eq_true (filter_any.mpr ea)) e2
          rw [e2'] at e'
          exact ⟨_, _, _, rfl, s4, e'⟩
      · have e1' : r.any (brs marks wh) = false := by
          cases ea : r.any (brs marks wh) with
          | false => rfl
          | true =>
            refine absurd ?_ e1
            rw [decide_eq_true_iff, List.length_map]
            cases ef : r.filter (brs marks wh) with
            | nil =>
              rw [filter_any.mp ef] at ea
              cases ea
            | cons x l =>
              show (0 : Int) < ((l.length + 1 : Nat) : Int)
              omega
        rw [e1'] at e'
        exact ⟨_, _, _, rfl, s12, e'⟩
    · rintro σ H1 ⟨y3, y4, y5, rfl, s1, e⟩
      rw [List.length_map, ew.len, List.drop_of_length_le (Nat.le_refl _)] at e
      have := q H1 s1
      rw [e] at this
      exact this
end

/-! ### comprehensions that draw over a list, or lay objects -/
section
variable {K : PySem.W.Frag}
theorem lc_listP {a : Addr} {xs : List V} {j : Nat} {tt : TT} {te : TE} {vs : List Nat} {σ : L2.St} {H1 : Hp} {D : Addr} {Qd : Hp → Prop} {A : PA} {c0 : Nat} (k : Nat) (ok : Nat → List V → Prop)
    (P0 : Pool H1 A c0) (hx : H1 a = some (.lst xs)) (ox : Off A a) (hD : H1 D = none) (hn : xs.length ≤ 100000) (h0 : ok 0 []) (hw : ∀ x, wipe ((wipe σ vs).set j (some x)) vs = wipe σ vs)
    (turn : ∀ (i : Nat) (x : V) (H : Hp) (acc : List V), xs[i]? = some x → Pool H A (c0 + i * k) → Kp A H1 H → ok i acc → acc.length ≤ i → ∀ (N1 : V → Hp → Prop) (N2 : Hp → Prop),
      (∀ y H', Pool H' A (c0 + i * k + k) → Kp A H H' → ok (i + 1) (acc ++ [y]) → N1 y H') → (∀ H', Pool H' A (c0 + i * k + k) → Kp A H H' → ok (i + 1) acc → N2 H') →
      tt ((wipe σ vs).set j (some x)) H fun b H3 => if b = true then te ((wipe σ vs).set j (some x)) H3 N1 else N2 H3)
    (done : ∀ (H : Hp) (acc : List V), Pool H A (c0 + xs.length * k) → Kp A H1 H → H D = some (.lst acc) → acc.length ≤ xs.length → ok xs.length acc → Off A D → Qd H) :
    ∃ W : Nat → Nat → Hp → Prop, (∃ m, W 0 m (upd H1 D (.lst []))) ∧ ∀ i m H, W i m H →
      ((Itl K a).stop i H ∧ Qd H) ∨ ((Itl K a).go i H ∧ ∃ Nx : Hp → Prop, (∀ H', Nx H' → ∃ m', m' < m ∧ W (i + 1) m' H') ∧ ∀ x H', (Itl K a).yld i H x H' → (gName j) x (wipe σ vs) H' fun σ2 H2 => wipe σ2 vs = wipe σ vs ∧ tt σ2 H2 fun b H3 =>
        if b = true then te σ2 H3 fun y H4 => ∃ acc, H4 D = some (.lst acc) ∧ acc.length < sizeLine ∧ Nx (upd H4 D (.lst (acc ++ [y]))) else Nx H3) := by
  have oD : Off A D := P0.off hD
  refine lc_list (xs := xs) (fun i H => ∃ acc, Pool H A (c0 + i * k) ∧ Kp A H1 H ∧ H D = some (.lst acc) ∧ acc.length ≤ i ∧ ok i acc) ⟨[], ?_, skp (same_upd hD), upd_same, Nat.le_refl _, h0⟩ (fun i H _ p => ?_) (fun i x H hi p => ?_) (fun H p => ?_)
  · rw [Nat.zero_mul]
    exact P0.upd oD
  · obtain ⟨acc, p1, p2, _⟩ := p
    exact SqL.of (p2 _ _ hx ox)
  · obtain ⟨acc, p1, p2, p3, p4, p5⟩ := p
    have hil : i < xs.length := (List.getElem?_eq_some_iff.mp hi).1
    refine ⟨hw _, turn i x H acc hi p1 p2 p5 p4 _ _ (fun y H' q1 q2 q3 => ⟨acc, q2 _ _ p3 oD, szLt (by omega), acc ++ [y], ?_, ?_, upd_same, ?_, q3⟩) (fun H' q1 q2 q3 => ⟨acc, ?_, p2.trans q2, q2 _ _ p3 oD, by omega, q3⟩)⟩
    · rw [Nat.succ_mul, ← Nat.add_assoc]
      exact q1.upd oD
    · exact Kp.mut (p2.trans q2) hD
    · rw [List.length_append]
      show acc.length + 1 ≤ i + 1
      omega
    · rw [Nat.succ_mul, ← Nat.add_assoc]
      exact q1
  · obtain ⟨acc, p1, p2, p3, p4, p5⟩ := p
    exact done H acc p1 p2 p3 p4 p5 oD
theorem lc_rangeH {lo : Int} {n j : Nat} {tt : TT} {te : TE} {vs : List Nat} {σ : L2.St} {H1 : Hp} {D : Addr} {Qd : Hp → Prop} (ok : Nat → Hp → List V → Prop) (st : ∀ i H H' acc, Imm H H' → ok i H acc → ok i H' acc)
    (hD : H1 D = none) (hn : n ≤ 100000) (h0 : ∀ H, ok 0 H []) (hw : ∀ x, wipe ((wipe σ vs).set j (some x)) vs = wipe σ vs)
    (turn : ∀ (i : Nat) (H : Hp) (acc : List V), i < n → Same H1 H → ok i H acc → acc.length ≤ i → ∀ (N1 : V → Hp → Prop) (N2 : Hp → Prop),
      (∀ y H', Same H H' → ok (i + 1) H' (acc ++ [y]) → N1 y H') → (∀ H', Same H H' → ok (i + 1) H' acc → N2 H') →
      tt ((wipe σ vs).set j (some (.int (lo + i)))) H fun b H3 => if b = true then te ((wipe σ vs).set j (some (.int (lo + i)))) H3 N1 else N2 H3)
    (done : ∀ (H : Hp) (acc : List V), Same H1 H → H D = some (.lst acc) → acc.length ≤ n → ok n H acc → Qd H) :
    ∃ W : Nat → Nat → Hp → Prop, (∃ m, W 0 m (upd H1 D (.lst []))) ∧ ∀ i m H, W i m H →
      ((Itr lo n).stop i H ∧ Qd H) ∨ ((Itr lo n).go i H ∧ ∃ Nx : Hp → Prop, (∀ H', Nx H' → ∃ m', m' < m ∧ W (i + 1) m' H') ∧ ∀ x H', (Itr lo n).yld i H x H' → (gName j) x (wipe σ vs) H' fun σ2 H2 => wipe σ2 vs = wipe σ vs ∧ tt σ2 H2 fun b H3 =>
        if b = true then te σ2 H3 fun y H4 => ∃ acc, H4 D = some (.lst acc) ∧ acc.length < sizeLine ∧ Nx (upd H4 D (.lst (acc ++ [y]))) else Nx H3) := by
  refine lc_range (lo := lo) (n := n) (fun i H => ∃ acc, Same H1 H ∧ H D = some (.lst acc) ∧ acc.length ≤ i ∧ ok i H acc) ⟨[], same_upd hD, upd_same, Nat.le_refl _, h0 _⟩ (fun i H hi p => ?_) (fun H p => ?_)
  · obtain ⟨acc, p2, p3, p4, p5⟩ := p
    refine ⟨hw _, turn i H acc hi p2 p5 p4 _ _ (fun y H' q2 q3 => ⟨acc, q2 _ _ p3, szLt (by omega), acc ++ [y], smut (p2.trans q2) hD, upd_same, ?_, st _ _ _ _ (Imm.list (q2 _ _ p3)) q3⟩) (fun H' q2 q3 => ⟨acc, p2.trans q2, q2 _ _ p3, by omega, q3⟩)⟩
    rw [List.length_append]
    show acc.length + 1 ≤ i + 1
    omega
  · obtain ⟨acc, p2, p3, p4, p5⟩ := p
    exact done H acc p2 p3 p4 p5
end
section
variable {X : Cx}
theorem un65 {k : Nat} {A : Around} (r : Room k A) : A.units + 65 < cLine := by
  have := r.un
  omega
theorem inD (K : PySem.W.Frag) (hu : X.A.units + 65 < cLine) (h : X.K = K := by rfl) : OpR X (compareOp .In) (rInD K) := by
  subst h
  exact op_inD hu
end

/-! ### the machine of a run -/
abbrev s_law_run_machine : Stmt := topS 15
theorem sc_law_run_machine : FnScope ["_law_pool_here", "_law_run", "_law_names_here", "_law_many", "_law_dense", "_law_trail", "_law_pairs", "_law_steps", "_law_marks", "_law_k", "_law_to", "_law_name_here"] ["_law_pool_here", "_law_run", "_law_names_here", "_law_many"] (defScope s_law_run_machine) := ⟨rfl, rfl, rfl, by decide +kernel, rfl, by decide +kernel, by decide +kernel⟩
section
variable {P : Program} {w : World} {K : PySem.W.Frag} {mg : Str → Option Value} {base : Heap}
def pairD (x : Int × Int) : PyData := .tuple ([x.1, x.2].map PyData.int)
theorem dpx_pairs {H : Hp} : ∀ {as : List Addr} {ps : List (Int × Int)}, Each (fun a (x : Int × Int) => SqT K H a [.int x.1, .int x.2]) as ps → DpAll K H (as.map V.ref) (ps.map pairD)
  | _, _, .nil => .nil
  | _, _, .cons h t => .cons (dp_intsT (ns := [_, _]) h) (dpx_pairs t)
theorem lay_pairs : ∀ ps : List (Int × Int), PyData.canLayAll0 (ps.map pairD) = true
  | [] => rfl
  | x :: r => by
    show (PyData.canLay0 (pairD x) && PyData.canLayAll0 (r.map pairD)) = true
    rw [lay_pairs r]
    rfl
theorem dep_pairs : ∀ ps : List (Int × Int), PyData.depthAll (ps.map pairD) ≤ 1
  | [] => Nat.zero_le _
  | x :: r => by
    show max (PyData.depth (pairD x)) (PyData.depthAll (r.map pairD)) ≤ 1
    have h1 := dep_pairs r
    have h2 : PyData.depth (pairD x) = 1 := rfl
    omega
theorem shaped_pairs (ps : List (Int × Int)) : SeqAt.shaped (.list (ps.map pairD)) = true := by
  unfold SeqAt.shaped
  have h : PyData.depth (.list (ps.map pairD)) ≤ 64 := by
    have := dep_pairs ps
    show PyData.depthAll (ps.map pairD) + 1 ≤ 64
    omega
  rw [show PyData.canLay0 (.list (ps.map pairD)) = true from lay_pairs ps, decide_eq_true h]
  rfl
def spRunMach (K : PySem.W.Frag) : Sp := fun vs H Q _ => ∃ (A : PA) (c : Nat) (a l : Addr) (p r : List Int) (zs : List Str) (n : Nat), vs = [.ref A.p, .ref a, .ref l, .int n] ∧ Pool H A c ∧ c < 600000 ∧ RunAt K H a p r ∧ p.length ≤ 100 ∧ r.length ≤ 100 ∧ H l = some (.lst (zs.map V.str)) ∧ Off A l ∧ zs.length ≤ 8 ∧ n ≤ 10 ∧
  ∀ (H' : Hp) (m : Addr) (steps : List (List Int)) (marks : List (List Str)), Pool H' A (c + 1 + n * 20) → Kp A H H' → MachAt K H' m steps marks → marks.length = n → Q (.ref m) H'
theorem ok_runmach {f : Addr} {fd : FuncData} (F : Fun K "_law_run_machine" "_law_run_machine" s_law_run_machine f fd) (T : Bi mg) (c_law_draw : Cal P w K mg base 1 "_law_draw" ["_law_pool_here", "_law_many"] spDraw) : FnOk P w K mg base CX0 2 f fd ["_law_pool_here", "_law_run", "_law_names_here", "_law_many"] (spRunMach K) := by
  refine F.ok sc_law_run_machine (fun vs H Q E h => ?_) (fun cdv A outer s H vs Q E hr h => ?_)
  · obtain ⟨A, c, a, l, p, r, zs, n, rfl, _⟩ := h
    rfl
  · obtain ⟨PL, c, a, l, p, r, zs, n, rfl, P0, hc, R, lp, lr, hl, ol, lz, hn, q⟩ := h
    refine ⟨_, (pss_cons (ps_set (i := 4) sc_law_run_machine.nd rfl (.inr rfl) (pe_call c_law_draw.G hr (by rfl) c_law_draw.g c_law_draw.kp c_law_draw.b .nil pass0 (pa_cons (pv 0) (pa_cons pe_int pa_nil))))
      (pss_cons (ps_set (i := 5) sc_law_run_machine.nd rfl (.inr rfl) (pe_op op_catQ (pe_op op_catQ (pe_ix ix_tup (pv 1) pe_int (fun _ _ => rfl)) (pe_ix ix_tup (pv 1) pe_int (fun _ _ => rfl))) (pe_slice sl_tupQ (pe_ix ix_tup (pv 1) pe_int (fun _ _ => rfl)) po_none (po_some pe_int))))
      (pss_cons (ps_set (i := 6) sc_law_run_machine.nd rfl (.inr rfl) (pe_lc (own := [("_law_k", 9)]) (g := gName 9) rfl sc_law_run_machine.nd (pi_range1 (by rfl) T.range (pa_cons (pe_op op_sub (pe_callB call_len_seq (by rfl) T.len PySem.boot_len (pa_cons (pv 5) pa_nil)) pe_int) pa_nil)) (blkOk_by (own := [("_law_k", 9)]) (N := ["_law_pool_here", "_law_run", "_law_names_here", "_law_many", "_law_dense", "_law_trail", "_law_pairs", "_law_steps", "_law_marks", "_law_k", "_law_to", "_law_name_here"]) (sc := defScope s_law_run_machine) (by decide +kernel)) (fun _ _ _ _ _ => (pg_name (i := 9) sc_law_run_machine.nd rfl (.inl rfl))) (fun _ _ _ _ _ => pts_nil) (fun _ _ _ _ _ => (pe_tup (pa_cons (pe_ix (ixT K) (pv 5) (pv 9) (fun _ _ => rfl)) (pa_cons (pe_ix (ixT K) (pv 5) (pe_op op_add (pv 9) pe_int) (fun _ _ => rfl)) pa_nil))))))
      (pss_cons (ps_set (i := 7) sc_law_run_machine.nd rfl (.inl rfl) (pe_lst pa_nil))
      (pss_cons (ps_set (i := 8) sc_law_run_machine.nd rfl (.inl rfl) (pe_lst pa_nil))
      (pss_cons (ps_for PassesOwn.never rfl (pi_range1 (by rfl) T.range (pa_cons (pv 3) pa_nil)) (pg_name (i := 9) sc_law_run_machine.nd rfl (.inr rfl))
        (pss_cons (ps_expr (pe_bm PySem.F.plainAttrs_list PySem.F.slot_list_append PySem.F.type_list_append mt_append (pv 7) (pa_cons (pe_callTy call_tuple_of (by rfl) T.tuple (by decide +kernel) (pa_cons (pe_lc (own := [("_law_to", 10)]) (g := gName 10) rfl sc_law_run_machine.nd (pi_range1 (by rfl) T.range (pa_cons (pv 3) pa_nil)) (blkOk_by (own := [("_law_to", 10)]) (N := ["_law_pool_here", "_law_run", "_law_names_here", "_law_many", "_law_dense", "_law_trail", "_law_pairs", "_law_steps", "_law_marks", "_law_k", "_law_to", "_law_name_here"]) (sc := defScope s_law_run_machine) (by decide +kernel)) (fun _ _ _ _ _ => (pg_name (i := 10) sc_law_run_machine.nd rfl (.inl rfl))) (fun _ _ _ _ _ => (pts_one (PW.pt (pw_or (pt_cmpR op_lt (pe_call c_law_draw.G hr (by rfl) c_law_draw.g c_law_draw.kp c_law_draw.b .nil pass0 (pa_cons (pv 0) (pa_cons pe_int pa_nil))) (pv 4) (nomark _)) (pw_or1 (pt_cmpR (inD K (un65 hr)) (pe_tup (pa_cons (pv 9) (pa_cons (pv 10) pa_nil))) (pv 6) (by rfl))))))) (fun _ _ _ _ _ => (pv 10))) pa_nil)) pa_nil)))
        (pss_one (ps_expr (pe_bm PySem.F.plainAttrs_list PySem.F.slot_list_append PySem.F.type_list_append mt_append (pv 8) (pa_cons (pe_callTy call_tuple_of (by rfl) T.tuple (by decide +kernel) (pa_cons (pe_callB cr_sortedS (by rfl) T.sorted (by decide +kernel) (pa_cons (pe_lc (own := [("_law_name_here", 11)]) (g := gName 11) rfl sc_law_run_machine.nd (pi_list (pv 2)) (blkOk_by (own := [("_law_name_here", 11)]) (N := ["_law_pool_here", "_law_run", "_law_names_here", "_law_many", "_law_dense", "_law_trail", "_law_pairs", "_law_steps", "_law_marks", "_law_k", "_law_to", "_law_name_here"]) (sc := defScope s_law_run_machine) (by decide +kernel)) (fun _ _ _ _ _ => (pg_name (i := 11) sc_law_run_machine.nd rfl (.inl rfl))) (fun _ _ _ _ _ => (pts_one (pt_cmpR op_eq (pe_call c_law_draw.G hr (by rfl) c_law_draw.g c_law_draw.kp c_law_draw.b .nil pass0 (pa_cons (pv 0) (pa_cons pe_int pa_nil))) pe_int (nomark _)))) (fun _ _ _ _ _ => (pv 11))) pa_nil)) pa_nil)) pa_nil))))))
      (pss_one (ps_ret (pe_tup (pa_cons (pe_callTy call_tuple_of (by rfl) T.tuple (by decide +kernel) (pa_cons (pv 7) pa_nil)) (pa_cons (pe_callTy call_tuple_of (by rfl) T.tuple (by decide +kernel) (pa_cons (pv 8) pa_nil)) pa_nil))))))))))), ?_⟩
    refine ⟨_, rfl, PL, c, 3, rfl, P0, by omega, by decide, by decide, fun H1 dense _ _ P1 K1 => ?_⟩
    obtain ⟨pa, ra, r1, r2, r3⟩ := (R.imm (P0.imm K1)).ex
    -- the trail
    refine ⟨_, rfl, a, _, 0, .ref pa, rfl, rfl, r1, at_of (j := 0) rfl rfl, _, rfl, a, _, 1, .ref ra, rfl, rfl, r1, at_of (j := 1) rfl rfl, pa, ra, _, _, rfl, rfl, r2, r3, szOk (by rw [List.length_map, List.length_map]; omega), fun d1 H2 s2 hd1 => ?_⟩
    refine ⟨_, rfl, a, _, 1, .ref ra, rfl, rfl, ssqt s2 r1, at_of (j := 1) rfl rfl, 1, rfl, ra, _, rfl, ssqt s2 r3, fun d2 H3 s3 hd2 => ?_⟩
    rw [show cutV (r.map V.int) none (some 1) = (r.take 1).map V.int from cut_to r 1] at hd2
    refine ⟨d1, d2, _, _, rfl, rfl, ssqt s3 hd1, hd2, szOk (by rw [List.length_append, List.length_map, List.length_map, List.length_map, List.length_take]; omega), fun d3 H4 s4 hd3 => ?_⟩
    rw [← List.map_append, ← List.map_append] at hd3
    have ltr : (p ++ r ++ r.take 1).length ≤ 300 := by
      rw [List.length_append, List.length_append, List.length_take]
      omega
    generalize p ++ r ++ r.take 1 = tr at hd3 ltr
    have s14 := (s2.trans s3).trans s4
    have P4 := P1.same s14
    have K4 := K1.trans (skp s14)
    -- the pairs
    refine ⟨_, rfl, d3, _, rfl, .inr hd3, _, _, rfl, rfl, _, rfl, by rw [List.length_map]; omega, by rw [List.length_map]; omega, fun dp hdp => ?_⟩
    refine lc_rangeH (fun i H' acc => ∃ (as : List Addr) (ps : List (Int × Int)), acc = as.map V.ref ∧ Each (fun a (x : Int × Int) => SqT K H' a [.int x.1, .int x.2]) as ps) (fun i Ha Hb acc im ⟨as, ps, e1, e2⟩ => ⟨as, ps, e1, e2.imp fun _ _ h => im.sq h⟩) hdp (by rw [List.length_map]; omega) (fun _ => ⟨[], [], rfl, .nil⟩) (fun _ => rfl) ?_ ?_
    · rintro i H5 acc hi s5 ⟨as, ps, rfl, e2⟩ _ N1 N2 k1 k2
      rw [List.length_map] at hi
      have g1 : (tr.map V.int)[i]? = some (.int (tr[i]'(by omega))) := get_map (List.getElem?_eq_getElem _)
      have g2 : (tr.map V.int)[i + 1]? = some (.int (tr[i + 1]'(by omega))) := get_map (List.getElem?_eq_getElem _)
      refine iteT (B := False) ⟨_, rfl, _, rfl, d3, _, _, _, rfl, rfl, ssqt s5 hd3, at_of (j := i) (Int.zero_add _) g1, _, rfl, _, rfl, _, _, rfl, rfl, d3, _, _, _, rfl, rfl, ssqt s5 hd3, at_of (j := i + 1) (by omega) g2, by show 2 ≤ sizeLine; decide, fun t ht => k1 _ _ (same_upd ht) ⟨as ++ [t], ps ++ [(tr[i]'(by omega), tr[i + 1]'(by omega))], ?_, ?_⟩⟩
      · rw [List.map_append]
        rfl
      · exact Each.snoc (R := fun a (x : Int × Int) => SqT K _ a [.int x.1, .int x.2]) (a := t) (x := (tr[i]'(by omega), tr[i + 1]'(by omega))) (SqT.of upd_same) (e2.imp fun _ _ h => ssqt (same_upd ht) h)
    rintro H5 acc s5 hdp5 _ ⟨as, ps, rfl, ep⟩
    have P5 := P4.same s5
    have K5 := K4.trans (skp s5)
    have odp := P4.off hdp
    -- steps, marks
    refine ⟨Nat.zero_le _, fun ls hls => ⟨Nat.zero_le _, fun lm hlm => ?_⟩⟩
    have os := P5.off hls
    have hls0 := K5.free hls os
    have P6 := P5.upd (o := .lst []) os
    have om := P6.off hlm
    have nsm : ls ≠ lm := fun e => by
      rw [← e, upd_same] at hlm
      cases hlm
    have hlm' : H5 lm = none := by
      rw [← hlm, upd_ne nsm.symm]
    have hlm0 := K5.free hlm' om
    have nps : dp ≠ ls := ne_of_none hdp5 hls
    have npm : dp ≠ lm := ne_of_none hdp5 hlm'
    refine ⟨_, rfl, n, rfl, by omega, by omega, for_range (lo := 0) (n := (n : Int).toNat) (fun i σ H' => ∃ (sa ka : List Addr) (steps : List (List Int)) (marks : List (List Str)) (y9 : Option V),
      σ = [some (.ref PL.p), some (.ref a), some (.ref l), some (.int n), some (.int dense), some (.ref d3), some (.ref dp), some (.ref ls), some (.ref lm), y9, none, none] ∧ Pool H' PL (c + 1 + i * 20) ∧ Kp PL H H' ∧ H' ls = some (.lst (sa.map V.ref)) ∧ H' lm = some (.lst (ka.map V.ref)) ∧ H' dp = some (.lst (as.map V.ref)) ∧
      Each (fun a (x : Int × Int) => SqT K H' a [.int x.1, .int x.2]) as ps ∧ Each (fun a ns => SqT K H' a (List.map V.int ns)) sa steps ∧ Each (fun a zs => SqT K H' a (List.map V.str zs)) ka marks ∧ steps.length = i ∧ marks.length = i)
      ⟨[], [], [], [], none, rfl, ?_, (K5.mut hls0).mut hlm0, ?_, upd_same, ?_, ?_, .nil, .nil, rfl, rfl⟩ ?_ ?_⟩
    · exact P6.upd om
    · rw [upd_ne nsm, upd_same]
      rfl
    · rw [upd_ne npm, upd_ne nps]
      exact hdp5
    · exact ep.imp fun _ _ h => ((simm (same_upd hls)).trans (simm (same_upd hlm))).sq h
    · rintro i σ H6 hi ⟨sa, ka, steps, marks, y9, rfl, P6, K6, g1, g2, g0, g3, g4, g5, g6, g7⟩
      have hi' : i < 10 := by omega
      have lsa : sa.length = i := by rw [g4.len, g6]
      have lka : ka.length = i := by rw [g5.len, g7]
      rw [Int.zero_add]
      -- steps.append(..)
      refine ⟨_, rfl, .inl ⟨rfl, _, SqL.of g1⟩, _, rfl, n, rfl, by omega, by omega, fun D hD => lc_rangeP (a := PL) 1 (fun i acc => ∃ gs : List Int, acc = gs.map V.int) P6 hD (by omega) ⟨[], rfl⟩ (fun _ => rfl) ?_ ?_⟩
      · rintro j H7 acc hj P7 K7 ⟨gs, rfl⟩ _ N1 N2 k1 k2
        have e67 := P6.imm K7
        refine ⟨_, rfl, PL, _, 6, rfl, P7, by omega, by decide, by decide, fun H8 d _ _ P8 K8 => ⟨_, rfl, _, _, rfl, rfl, _, rfl, ite2 (fun _ => iteT ⟨_, rfl, k1 _ _ P8 K8 ⟨gs ++ [_], by rw [List.map_append]; rfl⟩⟩) (fun _ => ?_)⟩⟩
        refine ⟨_, rfl, _, rfl, by show 2 ≤ sizeLine; decide, fun t ht => ?_⟩
        have st := same_upd (o := .tup [.int (i : Int), .int (0 + (j : Int))]) ht
        have h8 := st _ _ (K8 _ _ (K7 _ _ g0 odp) odp)
        have e8 := g3.imp fun _ _ h => ((e67.trans (P7.imm K8)).trans (simm st)).sq h
        have P9 := P8.same st
        have K9 := K8.trans (skp st)
        refine ⟨_, rfl, pairD (i, 0 + j), ps.map pairD, dp_intsT (ns := [_, _]) (SqT.of upd_same), .lst (SqL.of h8) (dpx_pairs e8), shaped_intsT [_, _], shaped_pairs ps, _, rfl, ite2 (fun _ => ⟨_, rfl, k1 _ _ P9 K9 ⟨gs ++ [_], by rw [List.map_append]; rfl⟩⟩) (fun _ => k2 _ P9 K9 ⟨gs, rfl⟩)⟩
      rintro H7 acc P7 K7 hD7 _ ⟨gs, rfl⟩ oD
      refine ⟨D, _, rfl, .inl ⟨SqL.of hD7, fun t ht => ?_⟩⟩
      have st := same_upd (o := .tup (gs.map V.int)) ht
      have g1' := st _ _ (K7 _ _ g1 os)
      have g2' := st _ _ (K7 _ _ g2 om)
      have g0' := st _ _ (K7 _ _ g0 odp)
      refine ⟨ls, _, _, rfl, rfl, g1', szLt (by rw [List.length_map]; omega), ?_⟩
      have tls : t ≠ ls := (ne_of_none (K7 _ _ g1 os) ht).symm
      have P8 : Pool (upd (upd H7 t (.tup (gs.map V.int))) ls (.lst (sa.map V.ref ++ [.ref t]))) PL (c + 1 + i * 20 + 10) := ((P7.same st).upd os).mono (by omega)
      have K8 : Kp PL H (upd (upd H7 t (.tup (gs.map V.int))) ls (.lst (sa.map V.ref ++ [.ref t]))) := ((K6.trans K7).trans (skp st)).mut hls0
      have e78 : Imm H6 (upd (upd H7 t (.tup (gs.map V.int))) ls (.lst (sa.map V.ref ++ [.ref t]))) := ((P6.imm K7).trans (simm st)).trans (Imm.list g1')
      have h1 : upd (upd H7 t (.tup (gs.map V.int))) ls (.lst (sa.map V.ref ++ [.ref t])) ls = some (.lst ((sa ++ [t]).map V.ref)) := by
        rw [upd_same, List.map_append]
        rfl
      have h2 : upd (upd H7 t (.tup (gs.map V.int))) ls (.lst (sa.map V.ref ++ [.ref t])) lm = some (.lst (ka.map V.ref)) := by
        rw [upd_ne nsm.symm]
        exact g2'
      have h0 : upd (upd H7 t (.tup (gs.map V.int))) ls (.lst (sa.map V.ref ++ [.ref t])) dp = some (.lst (as.map V.ref)) := by
        rw [upd_ne nps]
        exact g0'
      have h3 := g3.imp fun _ _ h => e78.sq h
      have h4 := Each.snoc (R := fun a ns => SqT K _ a (List.map V.int ns)) (a := t) (x := gs) (SqT.of (by rw [upd_ne tls, upd_same])) (g4.imp fun _ _ h => e78.sq h)
      have h5 := g5.imp fun _ _ h => e78.sq h
      generalize upd (upd H7 t (.tup (gs.map V.int))) ls (.lst (sa.map V.ref ++ [.ref t])) = H8 at P8 K8 h1 h2 h0 h3 h4 h5 ⊢
      have hl8 := K8 _ _ hl ol
      -- marks.append(..)
      refine ⟨_, rfl, .inl ⟨rfl, _, SqL.of h2⟩, _, rfl, l, rfl, ⟨_, SqL.of hl8⟩, fun D2 hD2 => lc_listP (a := l) (A := PL) 1 (fun i acc => ∃ ss : List Str, acc = ss.map V.str) P8 hl8 ol hD2 (by rw [List.length_map]; omega) ⟨[], rfl⟩ (fun _ => rfl) ?_ ?_⟩
      · rintro j x H9 acc hx P9 K9 ⟨ss, rfl⟩ _ N1 N2 k1 k2
        obtain ⟨z, hz, rfl⟩ := map_get hx
        have hj : j < zs.length := (List.getElem?_eq_some_iff.mp hz).1
        refine ⟨_, rfl, PL, _, 2, rfl, P9, by omega, by decide, by decide, fun H10 d _ _ P10 K10 => ⟨rfl, _, rfl, ite2 (fun _ => ⟨_, rfl, k1 _ _ P10 K10 ⟨ss ++ [z], by rw [List.map_append]; rfl⟩⟩) (fun _ => k2 _ P10 K10 ⟨ss, rfl⟩)⟩⟩
      rintro H9 acc P9 K9 hD9 la ⟨ss, rfl⟩ oD2
      rw [List.length_map, List.length_map] at la
      rw [List.length_map] at P9
      refine ⟨D2, ss, rfl, SqL.of hD9, by omega, fun ys p pm so hp => ?_⟩
      have lys := pm.length_eq
      have s10 : Same H9 (upd H9 p (.lst (ys.map V.str))) := same_upd hp
      refine ⟨p, _, rfl, .inl ⟨SqL.of upd_same, fun t2 ht2 => ?_⟩⟩
      have s11 := s10.trans (same_upd (o := .tup (ys.map V.str)) ht2)
      have h2' := s11 _ _ (K9 _ _ h2 om)
      refine ⟨lm, _, _, rfl, rfl, h2', szLt (by rw [List.length_map]; omega), ?_⟩
      have t2m : t2 ≠ lm := (ne_of_none (s10 _ _ (K9 _ _ h2 om)) ht2).symm
      have e12 := ((P8.imm K9).trans (simm s11)).trans (Imm.list (o := .lst (ka.map V.ref ++ [.ref t2])) h2')
      refine ⟨sa ++ [t], ka ++ [t2], steps ++ [gs], marks ++ [ys], some (.int i), rfl, ?_, ?_, ?_, ?_, ?_, h3.imp fun _ _ h => e12.sq h, h4.imp fun _ _ h => e12.sq h, ?_, ?_, ?_⟩
      · exact ((P9.same s11).upd om).mono (by omega)
      · exact ((K8.trans K9).trans (skp s11)).mut hlm0
      · rw [upd_ne nsm]
        exact s11 _ _ (K9 _ _ h1 os)
      · rw [upd_same, List.map_append]
        rfl
      · rw [upd_ne npm]
        exact s11 _ _ (K9 _ _ h0 odp)
      · exact Each.snoc (R := fun a zs => SqT K _ a (List.map V.str zs)) (a := t2) (x := ys) (SqT.of (by rw [upd_ne t2m, upd_same])) (h5.imp fun _ _ h => e12.sq h)
      · rw [List.length_append, g6]
        rfl
      · rw [List.length_append, g7]
        rfl
    · rintro σ H6 ⟨sa, ka, steps, marks, y9, rfl, P6, K6, g1, g2, g0, g3, g4, g5, g6, g7⟩
      rw [Int.toNat_natCast] at P6 g7
      refine ⟨_, rfl, ls, _, rfl, .inl ⟨SqL.of g1, fun s hs => ?_⟩⟩
      have s1 : Same H6 (upd H6 s (.tup (sa.map V.ref))) := same_upd hs
      refine ⟨_, rfl, lm, _, rfl, .inl ⟨SqL.of (s1 _ _ g2), fun k hk => ⟨by show 2 ≤ sizeLine; decide, fun m hm => ?_⟩⟩⟩
      have sk := same_upd (o := .tup (ka.map V.ref)) hk
      have sm := same_upd (o := .tup [.ref s, .ref k]) hm
      have s3 := (s1.trans sk).trans sm
      exact q _ m steps marks (P6.same s3) (K6.trans (skp s3)) ⟨s, k, sa, ka, SqT.of upd_same, ssqt (sk.trans sm) (SqT.of upd_same), ssqt sm (SqT.of upd_same), g4.imp fun _ _ h => (simm s3).sq h, g5.imp fun _ _ h => (simm s3).sq h⟩ g7
end

/-! ### the law -/
abbrev slaw : Stmt := topS 16
theorem sclaw : FnScope ["_law_script", "_law_pool_here", "_law_many", "_law_names_here", "_law_run", "_law_wants", "_law_machine", "_law_due", "_law_other"] ["_law_script"] (defScope slaw) := ⟨rfl, rfl, rfl, by decide +kernel, rfl, by decide +kernel, by decide +kernel⟩
theorem unR_mem {r : List Int} {m l : Nat} (hr : r ≠ []) (hl : 1 ≤ l) (t : Int) : t ∈ unR r m l ↔ t ∈ r := by
  have h0 : 0 < r.length := List.length_pos_iff.mpr hr
  have e : ∀ n, t ∈ r.drop n ++ r.take n ↔ t ∈ r := fun n => by
    rw [List.mem_append, Or.comm, ← List.mem_append, List.take_append_drop]
  unfold unR
  rw [List.mem_flatten]
  constructor
  · rintro ⟨x, hx, ht⟩
    rw [(List.mem_replicate.mp hx).2] at ht
    exact (e _).mp ht
  · intro ht
    exact ⟨_, List.mem_replicate.mpr ⟨by omega, rfl⟩, (e _).mpr ht⟩
theorem any_mem {q : Int → Bool} {l m : List Int} (h : ∀ t, t ∈ l ↔ t ∈ m) : l.any q = m.any q := by
  rw [Bool.eq_iff_iff, List.any_eq_true, List.any_eq_true]
  constructor
  · rintro ⟨x, hx, e⟩
    exact ⟨x, (h x).mp hx, e⟩
  · rintro ⟨x, hx, e⟩
    exact ⟨x, (h x).mpr hx, e⟩
theorem fair_mem {marks : List (List Str)} {ws : List (Str × Str)} {l m : List Int} (h : ∀ t, t ∈ l ↔ t ∈ m) : fairB marks l ws = fairB marks m ws := by
  unfold fairB
  congr 1
  funext x
  rw [any_mem h, any_mem h]
theorem flat_len1 (l : Nat) (r : List Int) : ((List.replicate l r).flatten).length = l * r.length := by
  induction l with
  | zero => rw [List.replicate_zero, List.flatten_nil, Nat.zero_mul] <;> rfl
  | succ l ih => rw [List.replicate_succ, List.flatten_cons, List.length_append, ih, Nat.succ_mul, Nat.add_comm]
section
variable {P : Program} {w : World} {K : PySem.W.Frag} {mg : Str → Option Value} {base : Heap}
def spLaw (K : PySem.W.Frag) : Sp := fun vs H Q _ => ∃ (l : Addr) (ns : List Int), vs = [.ref l] ∧ SqL K H l (ns.map V.int) ∧ ns.length ≤ 63 ∧ ∀ H', Q (.bl true) H'
theorem ok_law {f : Addr} {fd : FuncData} (F : Fun K "law" "law" slaw f fd) (T : Bi mg) (c_law_pool : Cal P w K mg base 1 "_law_pool" ["_law_script"] (spPool K)) (c_law_draw : Cal P w K mg base 1 "_law_draw" ["_law_pool_here", "_law_many"] spDraw)
    (c_law_names : Cal P w K mg base 3 "_law_names" ["_law_pool_here", "_law_many"] spLNames) (c_law_drawn_run : Cal P w K mg base 2 "_law_drawn_run" ["_law_pool_here", "_law_some", "_law_most", "_law_wide"] (spDrawnRun K)) (c_law_wishes : Cal P w K mg base 2 "_law_wishes" ["_law_pool_here", "_law_names_here", "_law_most"] (spWs K))
    (c_law_run_machine : Cal P w K mg base 2 "_law_run_machine" ["_law_pool_here", "_law_run", "_law_names_here", "_law_many"] (spRunMach K)) (c_law_fair_ring : Cal P w K mg base 1 "_law_fair_ring" ["_law_machine", "_law_ring", "_law_wants"] (spFairRing K))
    (c_law_truth : Cal P w K mg base 1 "_law_truth" ["_law_found", "_law_due"] spTruth) (c_law_unrolled : Cal P w K mg base 1 "_law_unrolled" ["_law_run", "_law_laps", "_law_many"] (spUnrolled K))
    (cis_fair : CalK P w K mg base 2 "is_fair" ["machine", "run", "wishes"] (spFair K) 2 ["wishes"]) : FnOk P w K mg base CX0 4 f fd ["_law_script"] (spLaw K) := by
  refine F.ok sclaw (fun vs H Q E h => ?_) (fun cdv A outer s H vs Q E hr h => ?_)
  · obtain ⟨l, ns, rfl, _⟩ := h
    rfl
  · obtain ⟨l, ns, rfl, hS, hlen, q⟩ := h
    refine ⟨_, (pss_cons (ps_set (i := 1) sclaw.nd rfl (.inl rfl) (pe_call c_law_pool.G (hr.mono (by decide)) (by rfl) c_law_pool.g c_law_pool.kp c_law_pool.b .nil pass0 (pa_cons (pv 0) pa_nil)))
      (pss_cons (ps_set (i := 2) sclaw.nd rfl (.inl rfl) (pe_op op_add pe_int (pe_call c_law_draw.G (hr.mono (by decide)) (by rfl) c_law_draw.g c_law_draw.kp c_law_draw.b .nil pass0 (pa_cons (pv 1) (pa_cons pe_int pa_nil)))))
      (pss_cons (ps_set (i := 3) sclaw.nd rfl (.inl rfl) (pe_call c_law_names.G hr (by rfl) c_law_names.g c_law_names.kp c_law_names.b .nil pass0 (pa_cons (pv 1) (pa_cons (pe_op op_add pe_int (pe_call c_law_draw.G (hr.mono (by decide)) (by rfl) c_law_draw.g c_law_draw.kp c_law_draw.b .nil pass0 (pa_cons (pv 1) (pa_cons pe_int pa_nil)))) pa_nil))))
      (pss_cons (ps_set (i := 4) sclaw.nd rfl (.inl rfl) (pe_call c_law_drawn_run.G (hr.mono (by decide)) (by rfl) c_law_drawn_run.g c_law_drawn_run.kp c_law_drawn_run.b .nil pass0 (pa_cons (pv 1) (pa_cons (pe_listRg rfl (by rfl) T.list (prg_1 (by rfl) T.range (pv 2))) (pa_cons pe_int (pa_cons pe_int pa_nil))))))
      (pss_cons (ps_set (i := 5) sclaw.nd rfl (.inl rfl) (pe_call c_law_wishes.G (hr.mono (by decide)) (by rfl) c_law_wishes.g c_law_wishes.kp c_law_wishes.b .nil pass0 (pa_cons (pv 1) (pa_cons (pv 3) (pa_cons pe_int pa_nil)))))
      (pss_cons (ps_set (i := 6) sclaw.nd rfl (.inl rfl) (pe_call c_law_run_machine.G (hr.mono (by decide)) (by rfl) c_law_run_machine.g c_law_run_machine.kp c_law_run_machine.b .nil pass0 (pa_cons (pv 1) (pa_cons (pv 4) (pa_cons (pv 3) (pa_cons (pv 2) pa_nil))))))
      (pss_cons (ps_set (i := 7) sclaw.nd rfl (.inl rfl) (pe_call c_law_fair_ring.G (hr.mono (by decide)) (by rfl) c_law_fair_ring.g c_law_fair_ring.kp c_law_fair_ring.b .nil pass0 (pa_cons (pv 6) (pa_cons (pe_ix ix_tup (pv 4) pe_int (fun _ _ => rfl)) (pa_cons (pv 5) pa_nil)))))
      (pss_cons (ps_if (pt_not (pt_val (pe_call c_law_truth.G (hr.mono (by decide)) (by rfl) c_law_truth.g c_law_truth.kp c_law_truth.b .nil pass0 (pa_cons (pe_callN cis_fair.G (hr.mono (by decide)) (by rfl) cis_fair.g cis_fair.kp cis_fair.kb pass0 (pa_cons (pv 6) (pa_cons (pv 4) pa_nil)) (pk_cons (pv 5) pk_nil)) (pa_cons (pv 7) pa_nil)))))
        (pss_one (ps_ret pe_bl))
        pss_nil)
      (pss_cons (ps_if (PW.pt (pw_or (pt_not (pt_val (pe_call c_law_truth.G (hr.mono (by decide)) (by rfl) c_law_truth.g c_law_truth.kp c_law_truth.b .nil pass0 (pa_cons (pe_call cis_fair.G (hr.mono (by decide)) (by rfl) cis_fair.g cis_fair.kp cis_fair.b cis_fair.rd pass0 (pa_cons (pv 6) (pa_cons (pv 4) pa_nil))) (pa_cons pe_bl pa_nil))))) (pw_or1 (pt_not (pt_val (pe_call c_law_truth.G (hr.mono (by decide)) (by rfl) c_law_truth.g c_law_truth.kp c_law_truth.b .nil pass0 (pa_cons (pe_callN cis_fair.G (hr.mono (by decide)) (by rfl) cis_fair.g cis_fair.kp cis_fair.kb pass0 (pa_cons (pv 6) (pa_cons (pv 4) pa_nil)) (pk_cons (pe_tup pa_nil) pk_nil)) (pa_cons pe_bl pa_nil))))))))
        (pss_one (ps_ret pe_bl))
        pss_nil)
      (pss_cons (ps_set (i := 8) sclaw.nd rfl (.inl rfl) (pe_call c_law_unrolled.G (hr.mono (by decide)) (by rfl) c_law_unrolled.g c_law_unrolled.kp c_law_unrolled.b .nil pass0 (pa_cons (pv 4) (pa_cons (pe_op op_add pe_int (pe_call c_law_draw.G (hr.mono (by decide)) (by rfl) c_law_draw.g c_law_draw.kp c_law_draw.b .nil pass0 (pa_cons (pv 1) (pa_cons pe_int pa_nil)))) (pa_cons (pe_call c_law_draw.G (hr.mono (by decide)) (by rfl) c_law_draw.g c_law_draw.kp c_law_draw.b .nil pass0 (pa_cons (pv 1) (pa_cons pe_int pa_nil))) pa_nil)))))
      (pss_one (ps_ret (pe_call c_law_truth.G (hr.mono (by decide)) (by rfl) c_law_truth.g c_law_truth.kp c_law_truth.b .nil pass0 (pa_cons (pe_callN cis_fair.G (hr.mono (by decide)) (by rfl) cis_fair.g cis_fair.kp cis_fair.kb pass0 (pa_cons (pv 6) (pa_cons (pv 8) pa_nil)) (pk_cons (pv 5) pk_nil)) (pa_cons (pv 7) pa_nil))))))))))))))), ?_⟩
    refine ⟨_, rfl, l, ns, rfl, hS, hlen, fun H1 PL s1 P1 => ?_⟩
    refine ⟨_, rfl, PL, 0, 6, rfl, P1, by decide, by decide, by decide, fun H2 x x0 x1 P2 k2 => ?_⟩
    obtain ⟨x, rfl⟩ : ∃ j : Nat, x = (j : Int) := ⟨x.toNat, by omega⟩
    refine ⟨_, _, rfl, rfl, ?_⟩
    -- names
    refine ⟨_, rfl, _, rfl, PL, _, 3, rfl, P2, by decide, by decide, by decide, fun H3 y y0 y1 P3 k3 => ?_⟩
    obtain ⟨y, rfl⟩ : ∃ j : Nat, y = (j : Int) := ⟨y.toNat, by omega⟩
    refine ⟨_, _, rfl, rfl, PL, _, 1 + y, rfl, P3, by omega, by omega, fun H4 ln zs P4 K4 hl4 ol4 nz gz lz => ?_⟩
    -- the run
    refine ⟨_, rfl, _, rfl, _, rfl, RgOk.of_le (by omega) (by omega) (by omega) (by omega), fun g hg => ?_⟩
    have sg := same_upd (o := .lst (rgV 0 (1 + (x : Int)))) hg
    have eg : rgV 0 (1 + (x : Int)) = ((List.range (1 + x)).map Int.ofNat).map V.int := by
      unfold rgV
      rw [show (1 + (x : Int) - 0).toNat = 1 + x by omega, List.map_map]
      refine List.map_congr_left fun i _ => ?_
      rw [Int.zero_add]
      rfl
    refine ⟨PL, _, g, (List.range (1 + x)).map Int.ofNat, 6, 6, rfl, P4.same sg, by omega, by rw [upd_same, eg], P4.off hg, ?_, by rw [List.length_map, List.length_range]; omega, by decide, by decide, by decide, by decide, fun H5 b p r hne lp lr _ mr R5 P5 K5 => ?_⟩
    · intro e
      have := congrArg List.length e
      rw [List.length_map, List.length_range] at this
      exact absurd this (by show ¬ 1 + x = 0; omega)
    have hl5 := K5 _ _ (sg _ _ hl4) ol4
    have bd : ∀ t ∈ r, 0 ≤ t ∧ t < (1 + x : Nat) := fun t ht => by
      obtain ⟨j, hj, e⟩ := List.mem_map.mp (mr t ht)
      have hj := List.mem_range.mp hj
      rw [← e]
      show (0 : Int) ≤ (j : Int) ∧ (j : Int) < _
      omega
    -- wishes
    refine ⟨_, rfl, _, rfl, PL, _, ln, zs, 4, rfl, P5, by omega, hl5, ol4, gz, by omega, by decide, fun H6 t ws P6 K6 W6 lw gw => ?_⟩
    have hl6 := K6 _ _ hl5 ol4
    have R6 := R5.imm (P5.imm K6)
    -- the machine
    refine ⟨_, rfl, _, rfl, _, rfl, _, rfl, PL, _, b, ln, p, r, zs, 1 + x, rfl, P6, by omega, R6, by omega, by omega, hl6, ol4, by omega, by omega, fun H7 m steps marks P7 K7 M7 lm => ?_⟩
    have R7 := R6.imm (P6.imm K7)
    have W7 := W6.imm (P6.imm K7)
    have bd' : ∀ t ∈ r, 0 ≤ t ∧ t < marks.length := fun t ht => by
      rw [lm]
      exact bd t ht
    have nw : ∀ z ∈ ws, z.2 ≠ Str.ofString "" := fun z hz e => by
      have := (gw z hz).lo
      rw [e] at this
      exact absurd this (by decide +kernel)
    obtain ⟨pa, ra, r1, r2, r3⟩ := R7.ex
    -- what is due
    refine ⟨_, rfl, _, rfl, b, _, 1, .ref ra, rfl, rfl, r1, at_of (j := 1) rfl rfl, _, rfl, m, ra, t, steps, marks, r, ws, rfl, M7, r3, W7, bd', by omega, nw, fun H8 s8 => ?_⟩
    refine ⟨_, rfl, _, rfl, _, rfl, rfl, rfl, m, b, t, steps, marks, p, r, ws, rfl, M7.imm (simm s8), R7.imm (simm s8), W7.imm (simm s8), bd', by omega, fun H9 s9 => ⟨_, rfl, _, _, rfl, _, rfl, iteNS rfl ?_⟩⟩
    have s79 := s8.trans s9
    -- without wishes
    refine ⟨_, rfl, _, rfl, m, b, cis_fair.aW, steps, marks, p, r, [], rfl, M7.imm (simm s79), R7.imm (simm s79), ⟨[], cis_fair.sW _, .nil⟩, bd', by omega, fun H10 s10 => ⟨_, _, rfl, _, rfl, iteNS rfl ?_⟩⟩
    have s710 := s79.trans s10
    refine ⟨_, rfl, _, rfl, by show 0 ≤ sizeLine; decide, fun t0 ht0 => ⟨rfl, rfl, m, b, t0, steps, marks, p, r, [], rfl, ?_, ?_, ⟨[], SqT.of upd_same, .nil⟩, bd', by omega, fun H11 s11 => ⟨_, _, rfl, _, rfl, iteNS rfl ?_⟩⟩⟩
    · exact M7.imm (simm (s710.trans (same_upd ht0)))
    · exact R7.imm (simm (s710.trans (same_upd ht0)))
    have s711 := (s710.trans (same_upd (o := .tup []) ht0)).trans s11
    have P11 := P7.same s711
    -- the same run otherwise
    refine ⟨_, rfl, _, rfl, PL, _, 3, rfl, P11, by omega, by decide, by decide, fun H12 u u0 u1 P12 K12 => ?_⟩
    obtain ⟨u, rfl⟩ : ∃ j : Nat, u = (j : Int) := ⟨u.toNat, by omega⟩
    refine ⟨_, _, rfl, rfl, _, rfl, PL, _, 9, rfl, P12, by omega, by decide, by decide, fun H13 v v0 v1 P13 K13 => ?_⟩
    obtain ⟨v, rfl⟩ : ∃ j : Nat, v = (j : Int) := ⟨v.toNat, by omega⟩
    have i713 := ((simm s711).trans (P11.imm K12)).trans (P12.imm K13)
    refine ⟨b, p, r, 1 + u, v, rfl, R7.imm i713, hne, by omega, by omega, by omega, by omega, by omega, fun H14 b2 s14 R14 => ?_⟩
    have i714 := i713.trans (simm s14)
    have mem := unR_mem (m := v) (l := 1 + u) hne (by omega)
    refine ⟨_, rfl, _, rfl, _, rfl, rfl, rfl, m, b2, t, steps, marks, _, _, ws, rfl, M7.imm i714, R14, W7.imm i714, fun z hz => bd' z ((mem z).mp hz), ?_, fun H15 s15 => ⟨_, rfl, _, _, rfl, ?_⟩⟩
    · unfold unR
      rw [flat_len1, List.length_append, List.length_drop, List.length_take]
      have h1 : r.length - v % r.length + min (v % r.length) r.length ≤ 12 := by omega
      have : (1 + u) * (r.length - v % r.length + min (v % r.length) r.length) ≤ 3 * 12 := Nat.mul_le_mul (by omega) h1
      omega
    rw [fair_mem mem, decide_eq_true rfl]
    exact q _
end

/-! ### what the top has written; the law's own head -/
theorem all_mk {l : PySem.W.OpenLaw} {w : World} {K : PySem.W.Frag} {h : Heap} {mg : Str → Option Value} {fa f1 f2 f3 f4 f5 f6 f7 f8 f9 f10 f11 f12 f13 : Addr} (X : K.In h) (G : h.Ns mainGlobals mg) (hfa : mg "law" = some (.ref fa))
    {od1 an1 od2 an2 od3 an3 od4 an4 od5 an5 od6 an6 od7 an7 od8 an8 od9 an9 od10 an10 od11 an11 od12 an12 od13 an13 : Option Addr} {sl1 sl2 sl3 sl4 sl5 sl6 sl7 sl8 sl9 sl10 sl11 sl12 sl13 : Array (Option Value)} {oc1 kV1 dc1 pm1 cd1 ct1 oc2 dc2 pm2 cd2 ct2 oc3 kV3 dc3 pm3 cd3 ct3 oc4 kV4 dc4 pm4 cd4 ct4 oc5 kV5 dc5 pm5 cd5 ct5 oc6 kV6 dc6 pm6 cd6 ct6 oc7 kV7 dc7 pm7 cd7 ct7 oc8 kV8 dc8 pm8 cd8 ct8 oc9 kV9 dc9 pm9 cd9 ct9 oc10 kV10 dc10 pm10 cd10 ct10 oc11 kV11 dc11 pm11 cd11 ct11 oc12 kV12 dc12 pm12 cd12 ct12 oc13 kV13 dc13 pm13 cd13 ct13 : Value}
    (a1 : PySem.W.nsIn K mainGlobals "bears" = some (some (.ref f1))) (l1 : K.lookup f1 = some ⟨oc1, od1, .func (PySem.W.fnOf "bears" "bears" (defArgs sbears) (defBody sbears) (defScope sbears) .none kV1 dc1 pm1 an1 cd1 ct1), sl1⟩) (c1 : PySem.W.codeIn K cd1 "bears" = true) (k1 : PySem.W.keepIn K (.ref f1) = true)
    {D2 : Addr}
    (a2 : PySem.W.nsIn K mainGlobals "is_fair" = some (some (.ref f2))) (l2 : K.lookup f2 = some ⟨oc2, od2, .func (PySem.W.fnOf "is_fair" "is_fair" (defArgs sis_fair) (defBody sis_fair) (defScope sis_fair) .none (.ref D2) dc2 pm2 an2 cd2 ct2), sl2⟩) (c2 : PySem.W.codeIn K cd2 "is_fair" = true) (k2 : PySem.W.keepIn K (.ref f2) = true)
    {aK2wishes : Addr} {odK2wishes : Option Addr} {itK2wishes : Array Value} {nK2wishes : Nat} {slK2wishes : Array (Option Value)} (qK2wishes : PySem.W.nsIn K D2 "wishes" = some (some (.ref aK2wishes))) (lK2wishes : K.lookup aK2wishes = some ⟨.type "tuple", odK2wishes, .seq itK2wishes nK2wishes, slK2wishes⟩) (sK2wishes : itK2wishes.size ≤ sizeLine) (vK2wishes : Vals [] itK2wishes.toList)
    (a3 : PySem.W.nsIn K mainGlobals "_law_pool" = some (some (.ref f3))) (l3 : K.lookup f3 = some ⟨oc3, od3, .func (PySem.W.fnOf "_law_pool" "_law_pool" (defArgs s_law_pool) (defBody s_law_pool) (defScope s_law_pool) .none kV3 dc3 pm3 an3 cd3 ct3), sl3⟩) (c3 : PySem.W.codeIn K cd3 "_law_pool" = true) (k3 : PySem.W.keepIn K (.ref f3) = true)
    (a4 : PySem.W.nsIn K mainGlobals "_law_draw" = some (some (.ref f4))) (l4 : K.lookup f4 = some ⟨oc4, od4, .func (PySem.W.fnOf "_law_draw" "_law_draw" (defArgs s_law_draw) (defBody s_law_draw) (defScope s_law_draw) .none kV4 dc4 pm4 an4 cd4 ct4), sl4⟩) (c4 : PySem.W.codeIn K cd4 "_law_draw" = true) (k4 : PySem.W.keepIn K (.ref f4) = true)
    (a5 : PySem.W.nsIn K mainGlobals "_law_name" = some (some (.ref f5))) (l5 : K.lookup f5 = some ⟨oc5, od5, .func (PySem.W.fnOf "_law_name" "_law_name" (defArgs s_law_name) (defBody s_law_name) (defScope s_law_name) .none kV5 dc5 pm5 an5 cd5 ct5), sl5⟩) (c5 : PySem.W.codeIn K cd5 "_law_name" = true) (k5 : PySem.W.keepIn K (.ref f5) = true)
    (a6 : PySem.W.nsIn K mainGlobals "_law_names" = some (some (.ref f6))) (l6 : K.lookup f6 = some ⟨oc6, od6, .func (PySem.W.fnOf "_law_names" "_law_names" (defArgs s_law_names) (defBody s_law_names) (defScope s_law_names) .none kV6 dc6 pm6 an6 cd6 ct6), sl6⟩) (c6 : PySem.W.codeIn K cd6 "_law_names" = true) (k6 : PySem.W.keepIn K (.ref f6) = true)
    (a7 : PySem.W.nsIn K mainGlobals "_law_wishes" = some (some (.ref f7))) (l7 : K.lookup f7 = some ⟨oc7, od7, .func (PySem.W.fnOf "_law_wishes" "_law_wishes" (defArgs s_law_wishes) (defBody s_law_wishes) (defScope s_law_wishes) .none kV7 dc7 pm7 an7 cd7 ct7), sl7⟩) (c7 : PySem.W.codeIn K cd7 "_law_wishes" = true) (k7 : PySem.W.keepIn K (.ref f7) = true)
    (a8 : PySem.W.nsIn K mainGlobals "_law_truth" = some (some (.ref f8))) (l8 : K.lookup f8 = some ⟨oc8, od8, .func (PySem.W.fnOf "_law_truth" "_law_truth" (defArgs s_law_truth) (defBody s_law_truth) (defScope s_law_truth) .none kV8 dc8 pm8 an8 cd8 ct8), sl8⟩) (c8 : PySem.W.codeIn K cd8 "_law_truth" = true) (k8 : PySem.W.keepIn K (.ref f8) = true)
    (a9 : PySem.W.nsIn K mainGlobals "_law_unrolled" = some (some (.ref f9))) (l9 : K.lookup f9 = some ⟨oc9, od9, .func (PySem.W.fnOf "_law_unrolled" "_law_unrolled" (defArgs s_law_unrolled) (defBody s_law_unrolled) (defScope s_law_unrolled) .none kV9 dc9 pm9 an9 cd9 ct9), sl9⟩) (c9 : PySem.W.codeIn K cd9 "_law_unrolled" = true) (k9 : PySem.W.keepIn K (.ref f9) = true)
    (a10 : PySem.W.nsIn K mainGlobals "_law_drawn_run" = some (some (.ref f10))) (l10 : K.lookup f10 = some ⟨oc10, od10, .func (PySem.W.fnOf "_law_drawn_run" "_law_drawn_run" (defArgs s_law_drawn_run) (defBody s_law_drawn_run) (defScope s_law_drawn_run) .none kV10 dc10 pm10 an10 cd10 ct10), sl10⟩) (c10 : PySem.W.codeIn K cd10 "_law_drawn_run" = true) (k10 : PySem.W.keepIn K (.ref f10) = true)
    (a11 : PySem.W.nsIn K mainGlobals "_law_fair_ring" = some (some (.ref f11))) (l11 : K.lookup f11 = some ⟨oc11, od11, .func (PySem.W.fnOf "_law_fair_ring" "_law_fair_ring" (defArgs s_law_fair_ring) (defBody s_law_fair_ring) (defScope s_law_fair_ring) .none kV11 dc11 pm11 an11 cd11 ct11), sl11⟩) (c11 : PySem.W.codeIn K cd11 "_law_fair_ring" = true) (k11 : PySem.W.keepIn K (.ref f11) = true)
    (a12 : PySem.W.nsIn K mainGlobals "_law_run_machine" = some (some (.ref f12))) (l12 : K.lookup f12 = some ⟨oc12, od12, .func (PySem.W.fnOf "_law_run_machine" "_law_run_machine" (defArgs s_law_run_machine) (defBody s_law_run_machine) (defScope s_law_run_machine) .none kV12 dc12 pm12 an12 cd12 ct12), sl12⟩) (c12 : PySem.W.codeIn K cd12 "_law_run_machine" = true) (k12 : PySem.W.keepIn K (.ref f12) = true)
    (a13 : PySem.W.nsIn K mainGlobals "law" = some (some (.ref f13))) (l13 : K.lookup f13 = some ⟨oc13, od13, .func (PySem.W.fnOf "law" "law" (defArgs slaw) (defBody slaw) (defScope slaw) .none kV13 dc13 pm13 an13 cd13 ct13), sl13⟩) (c13 : PySem.W.codeIn K cd13 "law" = true) (k13 : PySem.W.keepIn K (.ref f13) = true)
    (z_range : PySem.W.nsIn K mainGlobals "range" = some none)
    (z_tuple : PySem.W.nsIn K mainGlobals "tuple" = some none)
    (z_any : PySem.W.nsIn K mainGlobals "any" = some none)
    (z_len : PySem.W.nsIn K mainGlobals "len" = some none)
    (z_isinstance : PySem.W.nsIn K mainGlobals "isinstance" = some none)
    (z_bool : PySem.W.nsIn K mainGlobals "bool" = some none)
    (z_list : PySem.W.nsIn K mainGlobals "list" = some none)
    (z_sorted : PySem.W.nsIn K mainGlobals "sorted" = some none)
    : ∃ fd : FuncData, (∀ (s : Shared) (v : Value), BindsTo s fd ⟨[v], []⟩ [("_law_script", v)]) ∧ ∀ base : Heap, K.In base → base.Ns mainGlobals mg → FnOk l.prog w K mg base CX0 4 fa fd ["_law_script"] (spLaw K) := by
  have e := hfa.symm.trans (PySem.W.mg_of X G a13)
  cases e
  have F1 := fun_mk (st := sbears) l1 c1 k1
  have F2 : FunD K "is_fair" "is_fair" (defArgs sis_fair) (defBody sis_fair) (defScope sis_fair) [] [("wishes", V.ref aK2wishes)] f2 _ := ⟨⟨_, _, _, _, _, _, _, _, _, _, rfl, l2, c2, .inl ⟨rfl, rfl⟩, .inr ⟨D2, rfl, List.forall_mem_cons.mpr ⟨⟨_, qK2wishes, rfl⟩, List.forall_mem_nil _⟩⟩⟩, k2⟩
  have F3 := fun_mk (st := s_law_pool) l3 c3 k3
  have F4 := fun_mk (st := s_law_draw) l4 c4 k4
  have F5 := fun_mk (st := s_law_name) l5 c5 k5
  have F6 := fun_mk (st := s_law_names) l6 c6 k6
  have F7 := fun_mk (st := s_law_wishes) l7 c7 k7
  have F8 := fun_mk (st := s_law_truth) l8 c8 k8
  have F9 := fun_mk (st := s_law_unrolled) l9 c9 k9
  have F10 := fun_mk (st := s_law_drawn_run) l10 c10 k10
  have F11 := fun_mk (st := s_law_fair_ring) l11 c11 k11
  have F12 := fun_mk (st := s_law_run_machine) l12 c12 k12
  have F13 := fun_mk (st := slaw) l13 c13 k13
  have b1 := F1.binds (ps := ["machine", "standing", "name"]) fun _ _ _ _ _ _ us hl => match us, hl with | [_, _, _], _ => rfl
  obtain ⟨ds2, rd2, b2⟩ := F2.binds0 (ps := ["machine", "run", "wishes"]) 2 (by simp) rfl fun _ _ _ _ _ _ us ks h1 h2 => match us, h1, ks, h2 with | [_, _], _, [_], _ => ⟨_, _, _, _, _, _, rfl, rfl, rfl⟩
  obtain ⟨_, kb2⟩ := F2.kbinds0 (ps := ["machine", "run", "wishes"]) 2 ["wishes"] [] (fun us _ ws => us ++ ws) (by simp) (by simp) (fun r1 _ r3 => r1.append r3) fun _ _ _ _ _ _ us mv ws h1 h2 h3 => match us, h1, mv, h2, ws, h3 with | [_, _], _, [], _, [_], _ => rfl
  have b3 := F3.binds (ps := ["_law_script"]) fun _ _ _ _ _ _ us hl => match us, hl with | [_], _ => rfl
  have b4 := F4.binds (ps := ["_law_pool_here", "_law_many"]) fun _ _ _ _ _ _ us hl => match us, hl with | [_, _], _ => rfl
  have b5 := F5.binds (ps := ["_law_pool_here", "_law_start", "_law_taken"]) fun _ _ _ _ _ _ us hl => match us, hl with | [_, _, _], _ => rfl
  have b6 := F6.binds (ps := ["_law_pool_here", "_law_many"]) fun _ _ _ _ _ _ us hl => match us, hl with | [_, _], _ => rfl
  have b7 := F7.binds (ps := ["_law_pool_here", "_law_names_here", "_law_most"]) fun _ _ _ _ _ _ us hl => match us, hl with | [_, _, _], _ => rfl
  have b8 := F8.binds (ps := ["_law_found", "_law_due"]) fun _ _ _ _ _ _ us hl => match us, hl with | [_, _], _ => rfl
  have b9 := F9.binds (ps := ["_law_run", "_law_laps", "_law_many"]) fun _ _ _ _ _ _ us hl => match us, hl with | [_, _, _], _ => rfl
  have b10 := F10.binds (ps := ["_law_pool_here", "_law_some", "_law_most", "_law_wide"]) fun _ _ _ _ _ _ us hl => match us, hl with | [_, _, _, _], _ => rfl
  have b11 := F11.binds (ps := ["_law_machine", "_law_ring", "_law_wants"]) fun _ _ _ _ _ _ us hl => match us, hl with | [_, _, _], _ => rfl
  have b12 := F12.binds (ps := ["_law_pool_here", "_law_run", "_law_names_here", "_law_many"]) fun _ _ _ _ _ _ us hl => match us, hl with | [_, _, _, _], _ => rfl
  have T : Bi mg := ⟨PySem.W.mg_none_of X G z_range, PySem.W.mg_none_of X G z_tuple, PySem.W.mg_none_of X G z_any, PySem.W.mg_none_of X G z_len, PySem.W.mg_none_of X G z_isinstance, PySem.W.mg_none_of X G z_bool, PySem.W.mg_none_of X G z_list, PySem.W.mg_none_of X G z_sorted⟩
  refine ⟨PySem.W.fnOf "law" "law" (defArgs slaw) (defBody slaw) (defScope slaw) .none kV13 dc13 pm13 an13 cd13 ct13, fun s v => .of_eq rfl, fun base _ _ => ?_⟩
  have cbears : Cal l.prog w K mg base 1 "bears" ["machine", "standing", "name"] (spBears K) := ⟨f1, _, ok_bears F1 , PySem.W.mg_of X G a1, F1.kp, b1⟩
  have cis_fair : CalK l.prog w K mg base 2 "is_fair" ["machine", "run", "wishes"] (spFair K) 2 ["wishes"] := ⟨f2, _, ok_fair F2 T cbears, PySem.W.mg_of X G a2, F2.kp, aK2wishes, fun _ => .inr ⟨_, _, _, lK2wishes, rfl, rfl, sK2wishes, vK2wishes⟩, ds2, rd2, b2, kb2⟩
  have c_law_pool : Cal l.prog w K mg base 1 "_law_pool" ["_law_script"] (spPool K) := ⟨f3, _, ok_pool F3 , PySem.W.mg_of X G a3, F3.kp, b3⟩
  have c_law_draw : Cal l.prog w K mg base 1 "_law_draw" ["_law_pool_here", "_law_many"] spDraw := ⟨f4, _, ok_draw F4 T, PySem.W.mg_of X G a4, F4.kp, b4⟩
  have c_law_name : Cal l.prog w K mg base 2 "_law_name" ["_law_pool_here", "_law_start", "_law_taken"] spLName := ⟨f5, _, ok_lname F5 T c_law_draw, PySem.W.mg_of X G a5, F5.kp, b5⟩
  have c_law_names : Cal l.prog w K mg base 3 "_law_names" ["_law_pool_here", "_law_many"] spLNames := ⟨f6, _, ok_lnames F6 T c_law_draw c_law_name, PySem.W.mg_of X G a6, F6.kp, b6⟩
  have c_law_wishes : Cal l.prog w K mg base 2 "_law_wishes" ["_law_pool_here", "_law_names_here", "_law_most"] (spWs K) := ⟨f7, _, ok_ws F7 T c_law_draw, PySem.W.mg_of X G a7, F7.kp, b7⟩
  have c_law_truth : Cal l.prog w K mg base 1 "_law_truth" ["_law_found", "_law_due"] spTruth := ⟨f8, _, ok_truth F8 T, PySem.W.mg_of X G a8, F8.kp, b8⟩
  have c_law_unrolled : Cal l.prog w K mg base 1 "_law_unrolled" ["_law_run", "_law_laps", "_law_many"] (spUnrolled K) := ⟨f9, _, ok_unrolled F9 T, PySem.W.mg_of X G a9, F9.kp, b9⟩
  have c_law_drawn_run : Cal l.prog w K mg base 2 "_law_drawn_run" ["_law_pool_here", "_law_some", "_law_most", "_law_wide"] (spDrawnRun K) := ⟨f10, _, ok_drawnrun F10 T c_law_draw, PySem.W.mg_of X G a10, F10.kp, b10⟩
  have c_law_fair_ring : Cal l.prog w K mg base 1 "_law_fair_ring" ["_law_machine", "_law_ring", "_law_wants"] (spFairRing K) := ⟨f11, _, ok_fairring F11 T, PySem.W.mg_of X G a11, F11.kp, b11⟩
  have c_law_run_machine : Cal l.prog w K mg base 2 "_law_run_machine" ["_law_pool_here", "_law_run", "_law_names_here", "_law_many"] (spRunMach K) := ⟨f12, _, ok_runmach F12 T c_law_draw, PySem.W.mg_of X G a12, F12.kp, b12⟩
  exact ok_law F13 T c_law_pool c_law_draw c_law_names c_law_drawn_run c_law_wishes c_law_run_machine c_law_fair_ring c_law_truth c_law_unrolled cis_fair
end Fx
open PySem PySem.W PyProof.Rows
set_option maxHeartbeats 0 in
theorem PySem.Challenge.cw_fairtrees_k21_fair_runs_holds : PySem.Challenge.rw_fairtrees_k21_fair_runs.Holds := by
  w_on; o_law; k_head; (case hw => w_witness2)
  k_fill
  refine L2.walk_of (l := PySem.Challenge.rw_fairtrees_k21_fair_runs) (n := 63) (k := 4) (x := "_law_script") (CX := fun _ => L2.CX0) (sp := fun w => Fx.spLaw _) rfl (by decide) rfl ⟨rfl, by decide, by decide⟩ (fun w h Y => PySem.W.kIn_of Y) ?F (fun _ _ a ns hl _ hS => ⟨a, ns, rfl, hS, hl, fun _ => rfl⟩) (fun _ _ _ _ _ h => h)
  case F =>
    intro w mg fa h KX G hmg
    refine' Fx.all_mk KX G hmg ?a1 ?l1 ?c1 ?k1 ?a2 ?l2 ?c2 ?k2 ?qK2wishes ?lK2wishes ?sK2wishes ?vK2wishes ?a3 ?l3 ?c3 ?k3 ?a4 ?l4 ?c4 ?k4 ?a5 ?l5 ?c5 ?k5 ?a6 ?l6 ?c6 ?k6 ?a7 ?l7 ?c7 ?k7 ?a8 ?l8 ?c8 ?k8 ?a9 ?l9 ?c9 ?k9 ?a10 ?l10 ?c10 ?k10 ?a11 ?l11 ?c11 ?k11 ?a12 ?l12 ?c12 ?k12 ?a13 ?l13 ?c13 ?k13 ?z_range ?z_tuple ?z_any ?z_len ?z_isinstance ?z_bool ?z_list ?z_sorted
    (case a1 => k_is); (case l1 => k_is); (case c1 => k_is); (case k1 => k_is); (case a2 => k_is); (case l2 => k_is); (case c2 => k_is); (case k2 => k_is); (case qK2wishes => k_is); (case lK2wishes => k_is); (case a3 => k_is); (case l3 => k_is); (case c3 => k_is); (case k3 => k_is); (case a4 => k_is); (case l4 => k_is); (case c4 => k_is); (case k4 => k_is); (case a5 => k_is); (case l5 => k_is); (case c5 => k_is); (case k5 => k_is); (case a6 => k_is); (case l6 => k_is); (case c6 => k_is); (case k6 => k_is); (case a7 => k_is); (case l7 => k_is); (case c7 => k_is); (case k7 => k_is); (case a8 => k_is); (case l8 => k_is); (case c8 => k_is); (case k8 => k_is); (case a9 => k_is); (case l9 => k_is); (case c9 => k_is); (case k9 => k_is); (case a10 => k_is); (case l10 => k_is); (case c10 => k_is); (case k10 => k_is); (case a11 => k_is); (case l11 => k_is); (case c11 => k_is); (case k11 => k_is); (case a12 => k_is); (case l12 => k_is); (case c12 => k_is); (case k12 => k_is); (case a13 => k_is); (case l13 => k_is); (case c13 => k_is); (case k13 => k_is); (case z_range => k_is); (case z_tuple => k_is); (case z_any => k_is); (case z_len => k_is); (case z_isinstance => k_is); (case z_bool => k_is); (case z_list => k_is); (case z_sorted => k_is)
    (case sK2wishes => decide)
    (case vK2wishes => exact .nil)
