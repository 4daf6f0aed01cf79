import PyProof.Rows.All
import Wide.All
import OpenK.AllK
import Wide.FinOn
import HandS.ForMost
import HandS.TupAny
import HandS.TupMul
import HandS.IsInst
import HandS.TupLe
import HandS.DictComp
import HandS.Conv
import HandS.Walk
import HandS.Evl
import KE.GoesMore
import PyProof.Draws
import PyProof.CollectIter
import PyProof.WalksMore
import PyProof.TupleOfSeq
import KE.KDictList
import HandS.Defaults
import HandS.MakeKwOnly
import HandS.Deep
import HandS.WordsExc
import HandS.ExcOwn
import HandS.TryOnly
import HandS.ExcIs
import HandS.SetKeys
import HandS.SetBool
import HandS.Style
import HandS.HotCalls
import PySem.Challenge.RW_fairtrees_k06_no_program
set_option Elab.async false
set_option linter.all false
set_option maxRecDepth 100000
set_option maxHeartbeats 4000000
namespace Fx
open PySem PySem.Spec PyProof.Rows L2
def topS (i : Nat) : Stmt := PySem.Challenge.pw_fairtrees_k06_no_program.main.body.getD i (.Pass ⟨0, 0, 0, 0⟩)

/-! ### heaps, data, the pool of draws -/
/-- a def of the text as its callers see it -/
structure Cal (P : Program) (w : World) (K : PySem.W.Frag) (mg : Str → Option Value) (base : Heap) (k : Nat) (x : Str) (ps : List Str) (sp : Sp) where
  f : Addr
  fd : FuncData
  G : FnOk P w K mg base CX0 k f fd ps sp
  g : mg x = some (.ref f)
  kp : PySem.W.keepIn K (.ref f) = true
  b : Binds K fd ps []
theorem same_upd {H : Hp} {p : Addr} {o : HO} (h : H p = none) : Same H (upd H p o) := fun b x e => by
  rw [upd_ne (ne_of_none e h)]
  exact e
/-- an object that H does not know may change -/
theorem smut {H H' : Hp} {p : Addr} {o : HO} (e : Same H H') (h : H p = none) : Same H (upd H' p o) := fun a u ha => by
  rw [upd_ne (ne_of_none ha h)]
  exact e a u ha
/-- all tuples stand -/
def Imm (H H' : Hp) : Prop := ∀ a xs, Rd H a (.tup xs) → Rd H' a (.tup xs)
theorem Imm.refl (H : Hp) : Imm H H := fun _ _ h => h
theorem Imm.trans {H H1 H2 : Hp} (a : Imm H H1) (b : Imm H1 H2) : Imm H H2 := fun x xs h => b x xs (a x xs h)
theorem simm {H H' : Hp} (e : Same H H') : Imm H H' := fun a xs h => by
  rcases h with h | ⟨o, h⟩
  · exact .inl (e _ _ h)
  · exact .inr ⟨o, e _ _ h⟩
theorem Imm.sq {K : PySem.W.Frag} {H H' : Hp} {a : Addr} {xs : List V} (e : Imm H H') (h : SqT K H a xs) : SqT K H' a xs := by
  rcases h with h | h
  · exact .inl (e _ _ h)
  · exact .inr h
theorem ssqt {K : PySem.W.Frag} {H H' : Hp} {a : Addr} {xs : List V} (e : Same H H') (h : SqT K H a xs) : SqT K H' a xs := (simm e).sq h
/-- a list that changes is no tuple -/
theorem Imm.list {H : Hp} {p : Addr} {xs : List V} {o : HO} (h : H p = some (.lst xs)) : Imm H (upd H p o) := fun a ys e => by
  rcases e with e | ⟨u, e⟩
  · exact .inl (by rw [upd_ne (ne_of h e (by intro q; cases q)).symm]; exact e)
  · exact .inr ⟨u, by rw [upd_ne (ne_of h e (by intro q; cases q)).symm]; exact e⟩
theorem Imm.new {H : Hp} {p : Addr} {o : HO} (h : H p = none) : Imm H (upd H p o) := simm (same_upd h)
/-- a list of addresses, each a tuple of such things -/
inductive Each {α : Type} (R : Addr → α → Prop) : List Addr → List α → Prop where
  | nil : Each R [] []
  | cons {a : Addr} {as : List Addr} {x : α} {xs : List α} (h : R a x) (t : Each R as xs) : Each R (a :: as) (x :: xs)
theorem Each.imp {α : Type} {R S : Addr → α → Prop} (f : ∀ a x, R a x → S a x) : ∀ {as : List Addr} {xs : List α}, Each R as xs → Each S as xs
  | _, _, .nil => .nil
  | _, _, .cons h t => .cons (f _ _ h) (t.imp f)
theorem Each.len {α : Type} {R : Addr → α → Prop} : ∀ {as : List Addr} {xs : List α}, Each R as xs → as.length = xs.length
  | _, _, .nil => rfl
  | _, _, .cons _ t => by rw [List.length_cons, List.length_cons, t.len]
theorem Each.get {α : Type} {R : Addr → α → Prop} : ∀ {as : List Addr} {xs : List α} {i : Nat} {a : Addr}, Each R as xs → as[i]? = some a → ∃ x, xs[i]? = some x ∧ R a x
  | _, _, _, _, .nil, h => by simp at h
  | _, _, 0, _, .cons (x := x) r _, h => by
    have e := Option.some.inj h
    subst e
    exact ⟨x, rfl, r⟩
  | _, _, i + 1, _, .cons _ t, h => by
    obtain ⟨x, h1, h2⟩ := t.get (i := i) (by simpa using h)
    exact ⟨x, by simpa using h1, h2⟩
theorem Each.getx {α : Type} {R : Addr → α → Prop} : ∀ {as : List Addr} {xs : List α} {i : Nat} {x : α}, Each R as xs → xs[i]? = some x → ∃ a, as[i]? = some a ∧ R a x
  | _, _, _, _, .nil, h => by simp at h
  | _, _, 0, _, .cons (a := a) r _, h => by
    have e := Option.some.inj h
    subst e
    exact ⟨a, rfl, r⟩
  | _, _, i + 1, _, .cons _ t, h => by
    obtain ⟨x, h1, h2⟩ := t.getx (i := i) (by simpa using h)
    exact ⟨x, by simpa using h1, h2⟩
theorem Each.snoc {α : Type} {R : Addr → α → Prop} {a : Addr} {x : α} (r : R a x) : ∀ {as : List Addr} {xs : List α}, Each R as xs → Each R (as ++ [a]) (xs ++ [x])
  | _, _, .nil => .cons r .nil
  | _, _, .cons h t => .cons h (t.snoc r)
theorem map_get {α : Type} {f : α → V} {xs : List α} {i : Nat} {v : V} (h : (xs.map f)[i]? = some v) : ∃ x, xs[i]? = some x ∧ v = f x := by
  rw [List.getElem?_map] at h
  cases e : xs[i]? with
  | none =>
    rw [e] at h
    cases h
  | some x =>
    rw [e] at h
    exact ⟨x, rfl, (Option.some.inj h).symm⟩
theorem get_map {α : Type} {f : α → V} {xs : List α} {i : Nat} {x : α} (h : xs[i]? = some x) : (xs.map f)[i]? = some (f x) := by
  rw [List.getElem?_map, h]
  rfl
theorem notdec {p : Prop} [Decidable p] (h : (!decide p) = true) : ¬ p := by simpa using h
theorem dec_of {p : Prop} [Decidable p] (h : ¬ ((!decide p) = true)) : p := by simpa using h
theorem ixN_nat {n j : Nat} (hj : j < n) : ixN n (j : Int) = some j := by
  unfold ixN
  rw [if_pos (by omega), if_pos (by omega)]
  simp
theorem ixN0 {n : Nat} (h : 0 < n) : ixN n 0 = some 0 := ixN_nat (j := 0) h
theorem six0 {n : Nat} (h : 0 < n) : seqIndex? 0 n = some 0 := by
  unfold seqIndex?
  simp
  omega
theorem szOk {n : Nat} (h : n ≤ 100000) : n ≤ sizeLine := Nat.le_trans h (by decide)
theorem szLt {n : Nat} (h : n < 100000) : n < sizeLine := Nat.lt_of_lt_of_le h (by decide)
theorem ty_sqt {K : PySem.W.Frag} {H : Hp} {a : Addr} {xs : List V} (h : SqT K H a xs) : TyX K H (.ref a) (.type "tuple") := by
  rcases h with (h | ⟨o, h⟩) | ⟨o, its, n, hk, hc, _⟩
  · exact .base (.tup h)
  · exact .fTuple h
  · exact .kTuple hk hc
/-- the pool's addresses: itself, its great numbers, its small ones -/
structure PA where
  p : Addr
  g : Addr
  s : Addr
def Off (a : PA) (b : Addr) : Prop := b ≠ a.p ∧ b ≠ a.g ∧ b ≠ a.s
structure Pool (H : Hp) (a : PA) (c : Nat) : Prop where
  ex : ∃ (gs ss : List Int) (st ct : Int), H a.p = some (.lst [.ref a.g, .ref a.s, .int st, .int ct]) ∧ H a.g = some (.lst (gs.map V.int)) ∧ H a.s = some (.lst (ss.map V.int)) ∧
    gs.length ≤ 63 ∧ ss.length ≤ 63 ∧ 0 ≤ st ∧ st < 2147483647 ∧ 0 ≤ ct ∧ ct ≤ c ∧ a.s ≠ a.g
/-- all but the pool stands -/
def Kp (a : PA) (H H' : Hp) : Prop := ∀ b o, H b = some o → Off a b → H' b = some o
theorem Kp.refl {a : PA} (H : Hp) : Kp a H H := fun _ _ h _ => h
theorem Kp.trans {a : PA} {H H1 H2 : Hp} (x : Kp a H H1) (y : Kp a H1 H2) : Kp a H H2 := fun c o h n => y c o (x c o h n) n
theorem skp {a : PA} {H H' : Hp} (s : Same H H') : Kp a H H' := fun b o h _ => s b o h
theorem Kp.mut {a : PA} {H H' : Hp} {q : Addr} {o : HO} (e : Kp a H H') (h : H q = none) : Kp a H (upd H' q o) := fun b u hb n => by
  rw [upd_ne (ne_of_none hb h)]
  exact e b u hb n
theorem Kp.free {a : PA} {H H' : Hp} {l : Addr} (k : Kp a H H') (h : H' l = none) (n : Off a l) : H l = none := by
  cases e : H l with
  | none => rfl
  | some o =>
    rw [k l o e n] at h
    cases h
theorem Pool.mono {H : Hp} {a : PA} {c c' : Nat} (P : Pool H a c) (h : c ≤ c') : Pool H a c' := by
  obtain ⟨gs, ss, st, ct, a1, a2, a3, a4, a5, a6, a7, a8, a9, a10⟩ := P.ex
  exact ⟨gs, ss, st, ct, a1, a2, a3, a4, a5, a6, a7, a8, by omega, a10⟩
theorem Pool.same {H H' : Hp} {a : PA} {c : Nat} (P : Pool H a c) (e : Same H H') : Pool H' a c := by
  obtain ⟨gs, ss, st, ct, a1, a2, a3, a4, a5, a6, a7, a8, a9, a10⟩ := P.ex
  exact ⟨gs, ss, st, ct, e _ _ a1, e _ _ a2, e _ _ a3, a4, a5, a6, a7, a8, a9, a10⟩
theorem Pool.off {H : Hp} {a : PA} {b : Addr} {c : Nat} (P : Pool H a c) (h : H b = none) : Off a b := by
  obtain ⟨gs, ss, st, ct, a1, a2, a3, a4, a5, a6, a7, a8, a9, a10⟩ := P.ex
  exact ⟨(ne_of_none a1 h).symm, (ne_of_none a2 h).symm, (ne_of_none a3 h).symm⟩
/-- what is no list is none of the pool's -/
theorem Pool.offo {H : Hp} {a : PA} {b : Addr} {c : Nat} {o : HO} (P : Pool H a c) (h : H b = some o) (n : ∀ xs, o ≠ .lst xs) : Off a b := by
  obtain ⟨gs, ss, st, ct, a1, a2, a3, a4, a5, a6, a7, a8, a9, a10⟩ := P.ex
  exact ⟨(ne_of a1 h (n _).symm).symm, (ne_of a2 h (n _).symm).symm, (ne_of a3 h (n _).symm).symm⟩
theorem Pool.imm {H H' : Hp} {a : PA} {c : Nat} (P : Pool H a c) (k : Kp a H H') : Imm H H' := fun b xs h => by
  rcases h with h | ⟨o, h⟩
  · exact .inl (k _ _ h (P.offo h fun _ q => by cases q))
  · exact .inr ⟨o, k _ _ h (P.offo h fun _ q => by cases q)⟩
/-- an object beside the pool is laid or changed -/
theorem Pool.upd {H : Hp} {a : PA} {b : Addr} {c : Nat} {o : HO} (P : Pool H a c) (n : Off a b) : Pool (upd H b o) a c := by
  obtain ⟨gs, ss, st, ct, a1, a2, a3, a4, a5, a6, a7, a8, a9, a10⟩ := P.ex
  exact ⟨gs, ss, st, ct, by rw [upd_ne n.1.symm]; exact a1, by rw [upd_ne n.2.1.symm]; exact a2, by rw [upd_ne n.2.2.symm]; exact a3, a4, a5, a6, a7, a8, a9, a10⟩
/-! ### rules within a comprehension's block: the written part by its name -/
section
variable {X : Cx}
theorem ixL (K : PySem.W.Frag) (h : X.K = K := by rfl) : IxR X (rIxL K) := by subst h; exact ix_list
theorem ixT (K : PySem.W.Frag) (h : X.K = K := by rfl) : IxR X (rIxT K) := by subst h; exact ix_tup
theorem inS (K : PySem.W.Frag) (h : X.K = K := by rfl) : OpR X (compareOp .In) (rIn K false) := by subst h; exact op_in_seq
theorem ninS (K : PySem.W.Frag) (h : X.K = K := by rfl) : OpR X (compareOp .NotIn) (rIn K true) := by subst h; exact op_notIn_seq
theorem lenS (K : PySem.W.Frag) (h : X.K = K := by rfl) : CallR X (.builtin "len") (fun xs H Q => ∃ p ys, xs = [.ref p] ∧ (SqL K H p ys ∨ SqT K H p ys) ∧ Q (.int ys.length) H) := by subst h; exact call_len_seq
theorem isiK (K : PySem.W.Frag) (h : X.K = K := by rfl) : CallR X (.builtin "isinstance") (rIsi K) := by subst h; exact call_isi
theorem tupOf (K : PySem.W.Frag) (h : X.K = K := by rfl) : CallR X (.type "tuple") (fun xs H Q => ∃ p ys, xs = [.ref p] ∧ ((SqL K H p ys ∧ ∀ l, H l = none → Q (.ref l) (upd H l (.tup ys))) ∨ (SqT K H p ys ∧ Q (.ref p) H))) := by subst h; exact call_tuple_of
theorem slL (K : PySem.W.Frag) (h : X.K = K := by rfl) : SlR X (rSlL K) := by subst h; exact sl_list
theorem slA (K : PySem.W.Frag) (h : X.K = K := by rfl) : SlR X (rSlA K) := by subst h; exact sl_tupA
theorem catA (K : PySem.W.Frag) (h : X.K = K := by rfl) : OpR X (binaryOp .Add) (rCatA K) := by subst h; exact op_catA
theorem sortS (K : PySem.W.Frag) (h : X.K = K := by rfl) : CallR X (.builtin "sorted") (rSortedS K) := by subst h; exact cr_sortedS
theorem sortI (K : PySem.W.Frag) (h : X.K = K := by rfl) : CallR X (.builtin "sorted") (rSorted K) := by subst h; exact cr_sorted
end
/-! ### comprehensions: what holds of the list so far -/
section
variable {K : PySem.W.Frag}
/-- over a range, its turns drawing from the pool (k draws a turn) -/
theorem lc_rangeP {lo : Int} {n j : Nat} {tt : TT} {te : TE} {vs : List Nat} {σ : L2.St} {H1 : Hp} {D : Addr} {Qd : Hp → Prop} {a : PA} {c0 : Nat} (k : Nat) (ok : Nat → List V → Prop)
    (P0 : Pool H1 a c0) (hD : H1 D = none) (hn : n ≤ 100000) (h0 : ok 0 []) (hw : ∀ x, wipe ((wipe σ vs).set j (some x)) vs = wipe σ vs)
    (turn : ∀ (i : Nat) (H : Hp) (acc : List V), i < n → Pool H a (c0 + i * k) → Kp a H1 H → ok i acc → acc.length ≤ i → ∀ (N1 : V → Hp → Prop) (N2 : Hp → Prop),
      (∀ y H', Pool H' a (c0 + i * k + k) → Kp a H H' → ok (i + 1) (acc ++ [y]) → N1 y H') → (∀ H', Pool H' a (c0 + i * k + k) → Kp a H H' → ok (i + 1) acc → N2 H') →
      tt ((wipe σ vs).set j (some (.int (lo + i)))) H fun b H3 => if b = true then te ((wipe σ vs).set j (some (.int (lo + i)))) H3 N1 else N2 H3)
    (done : ∀ (H : Hp) (acc : List V), Pool H a (c0 + n * k) → Kp a H1 H → H D = some (.lst acc) → acc.length ≤ n → ok n acc → Off a D → Qd H) :
    ∃ W : Nat → Nat → Hp → Prop, (∃ m, W 0 m (upd H1 D (.lst []))) ∧ ∀ i m H, W i m H →
      ((Itr lo n).stop i H ∧ Qd H) ∨ ((Itr lo n).go i H ∧ ∃ Nx : Hp → Prop, (∀ H', Nx H' → ∃ m', m' < m ∧ W (i + 1) m' H') ∧ ∀ x H', (Itr lo n).yld i H x H' → (gName j) x (wipe σ vs) H' fun σ2 H2 => wipe σ2 vs = wipe σ vs ∧ tt σ2 H2 fun b H3 =>
        if b = true then te σ2 H3 fun y H4 => ∃ acc, H4 D = some (.lst acc) ∧ acc.length < sizeLine ∧ Nx (upd H4 D (.lst (acc ++ [y]))) else Nx H3) := by
  have oD : Off a D := P0.off hD
  refine lc_range (lo := lo) (n := n) (fun i H => ∃ acc, Pool H a (c0 + i * k) ∧ Kp a H1 H ∧ H D = some (.lst acc) ∧ acc.length ≤ i ∧ ok i acc) ⟨[], ?_, skp (same_upd hD), upd_same, Nat.le_refl _, h0⟩ (fun i H hi p => ?_) (fun H p => ?_)
  · rw [Nat.zero_mul]
    exact P0.upd oD
  · obtain ⟨acc, p1, p2, p3, p4, p5⟩ := p
    refine ⟨hw _, turn i H acc hi p1 p2 p5 p4 _ _ (fun y H' q1 q2 q3 => ⟨acc, q2 _ _ p3 oD, szLt (by omega), acc ++ [y], ?_, ?_, upd_same, ?_, q3⟩) (fun H' q1 q2 q3 => ⟨acc, ?_, p2.trans q2, q2 _ _ p3 oD, by omega, q3⟩)⟩
    · rw [Nat.succ_mul, ← Nat.add_assoc]
      exact q1.upd oD
    · exact Kp.mut (p2.trans q2) hD
    · rw [List.length_append]
      show acc.length + 1 ≤ i + 1
      omega
    · rw [Nat.succ_mul, ← Nat.add_assoc]
      exact q1
  · obtain ⟨acc, p1, p2, p3, p4, p5⟩ := p
    exact done H acc p1 p2 p3 p4 p5 oD
/-- over a walked thing, its turns changing nothing that stood -/
theorem lc_rangeS {lo : Int} {n j : Nat} {tt : TT} {te : TE} {vs : List Nat} {σ : L2.St} {H1 : Hp} {D : Addr} {Qd : Hp → Prop} (ok : Nat → List V → Prop)
    (hD : H1 D = none) (hn : n ≤ 100000) (h0 : ok 0 []) (hw : ∀ x, wipe ((wipe σ vs).set j (some x)) vs = wipe σ vs)
    (turn : ∀ (i : Nat) (H : Hp) (acc : List V), i < n → Same H1 H → ok i acc → acc.length ≤ i → ∀ (N1 : V → Hp → Prop) (N2 : Hp → Prop),
      (∀ y H', Same H H' → ok (i + 1) (acc ++ [y]) → N1 y H') → (∀ H', Same H H' → ok (i + 1) acc → N2 H') →
      tt ((wipe σ vs).set j (some (.int (lo + i)))) H fun b H3 => if b = true then te ((wipe σ vs).set j (some (.int (lo + i)))) H3 N1 else N2 H3)
    (done : ∀ (H : Hp) (acc : List V), Same H1 H → H D = some (.lst acc) → acc.length ≤ n → ok n acc → Qd H) :
    ∃ W : Nat → Nat → Hp → Prop, (∃ m, W 0 m (upd H1 D (.lst []))) ∧ ∀ i m H, W i m H →
      ((Itr lo n).stop i H ∧ Qd H) ∨ ((Itr lo n).go i H ∧ ∃ Nx : Hp → Prop, (∀ H', Nx H' → ∃ m', m' < m ∧ W (i + 1) m' H') ∧ ∀ x H', (Itr lo n).yld i H x H' → (gName j) x (wipe σ vs) H' fun σ2 H2 => wipe σ2 vs = wipe σ vs ∧ tt σ2 H2 fun b H3 =>
        if b = true then te σ2 H3 fun y H4 => ∃ acc, H4 D = some (.lst acc) ∧ acc.length < sizeLine ∧ Nx (upd H4 D (.lst (acc ++ [y]))) else Nx H3) := by
  refine lc_range (lo := lo) (n := n) (fun i H => ∃ acc, Same H1 H ∧ H D = some (.lst acc) ∧ acc.length ≤ i ∧ ok i acc) ⟨[], same_upd hD, upd_same, Nat.le_refl _, h0⟩ (fun i H hi p => ?_) (fun H p => ?_)
  · obtain ⟨acc, p2, p3, p4, p5⟩ := p
    refine ⟨hw _, turn i H acc hi p2 p5 p4 _ _ (fun y H' q2 q3 => ⟨acc, q2 _ _ p3, szLt (by omega), acc ++ [y], smut (p2.trans q2) hD, upd_same, ?_, q3⟩) (fun H' q2 q3 => ⟨acc, p2.trans q2, q2 _ _ p3, by omega, q3⟩)⟩
    rw [List.length_append]
    show acc.length + 1 ≤ i + 1
    omega
  · obtain ⟨acc, p2, p3, p4, p5⟩ := p
    exact done H acc p2 p3 p4 p5
theorem lc_listS {a : Addr} {xs : List V} {j : Nat} {tt : TT} {te : TE} {vs : List Nat} {σ : L2.St} {H1 : Hp} {D : Addr} {Qd : Hp → Prop} (ok : Nat → List V → Prop)
    (hx : SqL K H1 a xs) (hD : H1 D = none) (hn : xs.length ≤ 100000) (h0 : ok 0 []) (hw : ∀ x, wipe ((wipe σ vs).set j (some x)) vs = wipe σ vs)
    (turn : ∀ (i : Nat) (x : V) (H : Hp) (acc : List V), xs[i]? = some x → Same H1 H → ok i acc → acc.length ≤ i → ∀ (N1 : V → Hp → Prop) (N2 : Hp → Prop),
      (∀ y H', Same H H' → ok (i + 1) (acc ++ [y]) → N1 y H') → (∀ H', Same H H' → ok (i + 1) acc → N2 H') →
      tt ((wipe σ vs).set j (some x)) H fun b H3 => if b = true then te ((wipe σ vs).set j (some x)) H3 N1 else N2 H3)
    (done : ∀ (H : Hp) (acc : List V), Same H1 H → H D = some (.lst acc) → acc.length ≤ xs.length → ok xs.length acc → Qd H) :
    ∃ W : Nat → Nat → Hp → Prop, (∃ m, W 0 m (upd H1 D (.lst []))) ∧ ∀ i m H, W i m H →
      ((Itl K a).stop i H ∧ Qd H) ∨ ((Itl K a).go i H ∧ ∃ Nx : Hp → Prop, (∀ H', Nx H' → ∃ m', m' < m ∧ W (i + 1) m' H') ∧ ∀ x H', (Itl K a).yld i H x H' → (gName j) x (wipe σ vs) H' fun σ2 H2 => wipe σ2 vs = wipe σ vs ∧ tt σ2 H2 fun b H3 =>
        if b = true then te σ2 H3 fun y H4 => ∃ acc, H4 D = some (.lst acc) ∧ acc.length < sizeLine ∧ Nx (upd H4 D (.lst (acc ++ [y]))) else Nx H3) := by
  refine lc_list (xs := xs) (fun i H => ∃ acc, Same H1 H ∧ H D = some (.lst acc) ∧ acc.length ≤ i ∧ ok i acc) ⟨[], same_upd hD, upd_same, Nat.le_refl _, h0⟩ (fun i H _ p => ?_) (fun i x H hi p => ?_) (fun H p => ?_)
  · obtain ⟨acc, p2, _⟩ := p
    exact p2.seq hx
  · obtain ⟨acc, p2, p3, p4, p5⟩ := p
    have hil : i < xs.length := (List.getElem?_eq_some_iff.mp hi).1
    refine ⟨hw _, turn i x H acc hi p2 p5 p4 _ _ (fun y H' q2 q3 => ⟨acc, q2 _ _ p3, szLt (by omega), acc ++ [y], smut (p2.trans q2) hD, upd_same, ?_, q3⟩) (fun H' q2 q3 => ⟨acc, p2.trans q2, q2 _ _ p3, by omega, q3⟩)⟩
    rw [List.length_append]
    show acc.length + 1 ≤ i + 1
    omega
  · obtain ⟨acc, p2, p3, p4, p5⟩ := p
    exact done H acc p2 p3 p4 p5
theorem lc_tupS {a : Addr} {xs : List V} {j : Nat} {tt : TT} {te : TE} {vs : List Nat} {σ : L2.St} {H1 : Hp} {D : Addr} {Qd : Hp → Prop} (ok : Nat → List V → Prop)
    (hx : SqT K H1 a xs) (hD : H1 D = none) (hn : xs.length ≤ 100000) (h0 : ok 0 []) (hw : ∀ x, wipe ((wipe σ vs).set j (some x)) vs = wipe σ vs)
    (turn : ∀ (i : Nat) (x : V) (H : Hp) (acc : List V), xs[i]? = some x → Same H1 H → ok i acc → acc.length ≤ i → ∀ (N1 : V → Hp → Prop) (N2 : Hp → Prop),
      (∀ y H', Same H H' → ok (i + 1) (acc ++ [y]) → N1 y H') → (∀ H', Same H H' → ok (i + 1) acc → N2 H') →
      tt ((wipe σ vs).set j (some x)) H fun b H3 => if b = true then te ((wipe σ vs).set j (some x)) H3 N1 else N2 H3)
    (done : ∀ (H : Hp) (acc : List V), Same H1 H → H D = some (.lst acc) → acc.length ≤ xs.length → ok xs.length acc → Qd H) :
    ∃ W : Nat → Nat → Hp → Prop, (∃ m, W 0 m (upd H1 D (.lst []))) ∧ ∀ i m H, W i m H →
      ((Itt K a).stop i H ∧ Qd H) ∨ ((Itt K a).go i H ∧ ∃ Nx : Hp → Prop, (∀ H', Nx H' → ∃ m', m' < m ∧ W (i + 1) m' H') ∧ ∀ x H', (Itt K a).yld i H x H' → (gName j) x (wipe σ vs) H' fun σ2 H2 => wipe σ2 vs = wipe σ vs ∧ tt σ2 H2 fun b H3 =>
        if b = true then te σ2 H3 fun y H4 => ∃ acc, H4 D = some (.lst acc) ∧ acc.length < sizeLine ∧ Nx (upd H4 D (.lst (acc ++ [y]))) else Nx H3) := by
  refine lc_tup (xs := xs) (fun i H => ∃ acc, Same H1 H ∧ H D = some (.lst acc) ∧ acc.length ≤ i ∧ ok i acc) ⟨[], same_upd hD, upd_same, Nat.le_refl _, h0⟩ (fun i H _ p => ?_) (fun i x H hi p => ?_) (fun H p => ?_)
  · obtain ⟨acc, p2, _⟩ := p
    exact ssqt p2 hx
  · obtain ⟨acc, p2, p3, p4, p5⟩ := p
    have hil : i < xs.length := (List.getElem?_eq_some_iff.mp hi).1
    refine ⟨hw _, turn i x H acc hi p2 p5 p4 _ _ (fun y H' q2 q3 => ⟨acc, q2 _ _ p3, szLt (by omega), acc ++ [y], smut (p2.trans q2) hD, upd_same, ?_, q3⟩) (fun H' q2 q3 => ⟨acc, p2.trans q2, q2 _ _ p3, by omega, q3⟩)⟩
    rw [List.length_append]
    show acc.length + 1 ≤ i + 1
    omega
  · obtain ⟨acc, p2, p3, p4, p5⟩ := p
    exact done H acc p2 p3 p4 p5
end

/-- what the top leaves of the names that the text reads -/
structure Bi (mg : Str → Option Value) : Prop where
  ValueError : mg "ValueError" = none
  range : mg "range" = none
  tuple : mg "tuple" = none
  isinstance : mg "isinstance" = none
  int : mg "int" = none
  len : mg "len" = none
  str : mg "str" = none
  all : mg "all" = none
  bool : mg "bool" = none
  list : mg "list" = none
  min : mg "min" = none

/-! ### _law_pool, _law_draw -/
abbrev s_law_pool : Stmt := topS 42
theorem sc_law_pool : FnScope ["_law_script", "_law_great", "_law_cell"] ["_law_script"] (defScope s_law_pool) := ⟨rfl, rfl, rfl, by decide +kernel, rfl, by decide +kernel, by decide +kernel⟩
abbrev s_law_draw : Stmt := topS 43
theorem sc_law_draw : FnScope ["_law_pool_here", "_law_many", "_law_cell"] ["_law_pool_here", "_law_many"] (defScope s_law_draw) := ⟨rfl, rfl, rfl, by decide +kernel, rfl, by decide +kernel, by decide +kernel⟩
section
variable {P : Program} {w : World} {K : PySem.W.Frag} {mg : Str → Option Value} {base : Heap}
def spPool (K : PySem.W.Frag) : Sp := fun vs H Q _ => ∃ (l : Addr) (ns : List Int), vs = [.ref l] ∧ SqL K H l (ns.map V.int) ∧ ns.length ≤ 63 ∧ ∀ H' a, Same H H' → Pool H' a 0 → Q (.ref a.p) H'
theorem ok_pool {f : Addr} {fd : FuncData} (F : Fun K "_law_pool" "_law_pool" s_law_pool f fd) : FnOk P w K mg base CX0 1 f fd ["_law_script"] (spPool K) := by
  refine F.ok sc_law_pool (fun vs H Q E h => ?_) (fun cdv A outer s H vs Q E hr h => ?_)
  · obtain ⟨l, ns, rfl, _⟩ := h
    rfl
  · obtain ⟨l, ns, rfl, hS, hlen, q⟩ := h
    refine ⟨_, (pss_cons (ps_setLc (i := 1) (own := [("_law_cell", 2)]) (g := gName 2) (by rfl) sc_law_pool.nd rfl rfl (sw_true rfl rfl rfl (by decide +kernel)) (pi_list (pv 0)) (blkOk_by (own := [("_law_cell", 2)]) (N := ["_law_script", "_law_great", "_law_cell"]) (sc := defScope s_law_pool) (by decide +kernel)) (fun _ _ _ _ _ => (pg_name (i := 2) sc_law_pool.nd rfl (.inl rfl))) (fun _ _ _ _ _ => (pts_one (pt_cmpR op_ge (pv 2) (pe_op op_pow pe_int pe_int) (nomark _)))) (fun _ _ _ _ _ => (pv 2)))
      (pss_one (ps_ret (pe_lst (pa_cons (pv 1) (pa_cons (pe_lc (own := [("_law_cell", 2)]) (g := gName 2) rfl sc_law_pool.nd (pi_list (pv 0)) (blkOk_by (own := [("_law_cell", 2)]) (N := ["_law_script", "_law_great", "_law_cell"]) (sc := defScope s_law_pool) (by decide +kernel)) (fun _ _ _ _ _ => (pg_name (i := 2) sc_law_pool.nd rfl (.inl rfl))) (fun _ _ _ _ _ => (pts_one (pt_cmpR op_lt (pv 2) (pe_op op_pow pe_int pe_int) (nomark _)))) (fun _ _ _ _ _ => (pv 2))) (pa_cons pe_int (pa_cons pe_int pa_nil)))))))), ?_⟩
    refine ⟨_, rfl, l, rfl, ⟨_, hS⟩, fun D hD => lc_listS (K := K) (a := l) (xs := ns.map V.int) (fun i acc => ∃ gs : List Int, acc = gs.map V.int) hS hD (by rw [List.length_map]; omega) ⟨[], rfl⟩ (fun _ => rfl) ?_ ?_⟩
    · intro i x H1 acc hx s1 ⟨gs, hg⟩ _ N1 N2 k1 k2
      obtain ⟨z, hz, rfl⟩ := map_get hx
      refine ⟨_, rfl, _, _, rfl, rfl, ⟨by decide, by decide, by decide⟩, _, _, rfl, rfl, _, rfl, ite2 (fun e => ?_) (fun e => ?_)⟩
      · exact ⟨_, rfl, k1 _ _ (Same.refl _) ⟨gs ++ [z], by rw [hg, List.map_append]; rfl⟩⟩
      · exact k2 _ (Same.refl _) ⟨gs, hg⟩
    · intro H1 acc s1 hD1 la ⟨gs, hg⟩
      subst hg
      have hS1 : SqL K H1 l (ns.map V.int) := s1.seq hS
      refine ⟨_, rfl, _, rfl, l, rfl, ⟨_, hS1⟩, fun D2 hD2 => lc_listS (K := K) (a := l) (xs := ns.map V.int) (fun i acc => ∃ gs : List Int, acc = gs.map V.int) hS1 hD2 (by rw [List.length_map]; omega) ⟨[], rfl⟩ (fun _ => rfl) ?_ ?_⟩
      · intro i x H2 acc hx s2 ⟨gs, hg⟩ _ N1 N2 k1 k2
        obtain ⟨z, hz, rfl⟩ := map_get hx
        refine ⟨_, rfl, _, _, rfl, rfl, ⟨by decide, by decide, by decide⟩, _, _, rfl, rfl, _, rfl, ite2 (fun e => ?_) (fun e => ?_)⟩
        · exact ⟨_, rfl, k1 _ _ (Same.refl _) ⟨gs ++ [z], by rw [hg, List.map_append]; rfl⟩⟩
        · exact k2 _ (Same.refl _) ⟨gs, hg⟩
      · intro H2 acc s2 hD2' la2 ⟨ss, hs⟩
        subst hs
        refine ⟨by show 4 ≤ sizeLine; decide, fun p hp => q _ ⟨p, D, D2⟩ ((s1.trans s2).trans (same_upd hp)) ⟨gs, ss, 5, 0, upd_same, ?_, ?_, ?_, ?_, by decide, by decide, by decide, by decide, ?_⟩⟩
        · show upd H2 p _ D = _
          rw [upd_ne (ne_of_none (s2 _ _ hD1) hp)]
          exact s2 _ _ hD1
        · show upd H2 p _ D2 = _
          rw [upd_ne (ne_of_none hD2' hp)]
          exact hD2'
        · rw [List.length_map, List.length_map] at la
          omega
        · rw [List.length_map, List.length_map] at la2
          omega
        · exact (ne_of_none hD1 hD2).symm
def spDraw : Sp := fun vs H Q _ => ∃ (a : PA) (c : Nat) (m : Int), vs = [.ref a.p, .int m] ∧ Pool H a c ∧ c < 1000000 ∧ 0 < m ∧ m < 1073741824 ∧
  ∀ H' r, 0 ≤ r → r < m → Pool H' a (c + 1) → Kp a H H' → Q (.int r) H'
theorem ok_draw {f : Addr} {fd : FuncData} (F : Fun K "_law_draw" "_law_draw" s_law_draw f fd) (T : Bi mg) : FnOk P w K mg base CX0 1 f fd ["_law_pool_here", "_law_many"] spDraw := by
  refine F.ok sc_law_draw (fun vs H Q E h => ?_) (fun cdv A outer s H vs Q E hr h => ?_)
  · obtain ⟨a, c, m, rfl, _⟩ := h
    rfl
  · obtain ⟨⟨p, g, s⟩, c, m, rfl, PP, hc, hm0, hm1, q⟩ := h
    obtain ⟨gs, ss, st, ct, a1, a2, a3, a4, a5, a6, a7, a8, a9, a10⟩ := PP.ex
    have npg : p ≠ g := ne_of a1 a2 (by intro q; have := HO.lst.inj q; cases gs <;> cases this)
    have nps : p ≠ s := ne_of a1 a3 (by intro q; have := HO.lst.inj q; cases ss <;> cases this)
    refine ⟨_, (pss_cons (ps_if (pt_cmpR op_gt (pe_callB call_len_seq (by rfl) T.len PySem.boot_len (pa_cons (pe_ix ix_list (pv 0) pe_int (fun _ _ => rfl)) pa_nil)) pe_int (nomark _))
        (pss_cons (ps_set (i := 2) sc_law_draw.nd rfl (.inl rfl) (pe_ix ix_list (pe_ix ix_list (pv 0) pe_int (fun _ _ => rfl)) pe_int (fun _ _ => rfl)))
        (pss_cons (ps_asg (pe_op op_fdiv (pv 2) (pv 1)) (pg_sub (pe_ix ix_list (pv 0) pe_int (fun _ _ => rfl)) pe_int set_list))
        (pss_cons (ps_if (pt_cmpR op_eq (pe_op op_fdiv (pv 2) (pv 1)) pe_int (nomark _))
          (pss_one (ps_expr (pe_bm PySem.F.plainAttrs_list PySem.F.slot_list_pop PySem.F.type_list_pop mt_popAt (pe_ix ix_list (pv 0) pe_int (fun _ _ => rfl)) (pa_cons pe_int pa_nil))))
          pss_nil)
        (pss_one (ps_ret (pe_op op_mod (pv 2) (pv 1)))))))
        pss_nil)
      (pss_cons (ps_asg (pe_op op_add (pe_ix ix_list (pv 0) pe_int (fun _ _ => rfl)) pe_int) (pg_sub (pv 0) pe_int set_list))
      (pss_cons (ps_set (i := 2) sc_law_draw.nd rfl (.inl rfl) pe_int)
      (pss_cons (ps_if (pt_cmpR op_gt (pe_callB call_len_seq (by rfl) T.len PySem.boot_len (pa_cons (pe_ix ix_list (pv 0) pe_int (fun _ _ => rfl)) pa_nil)) pe_int (nomark _))
        (pss_one (ps_set (i := 2) sc_law_draw.nd rfl (.inl rfl) (pe_ix ix_list (pe_ix ix_list (pv 0) pe_int (fun _ _ => rfl)) (pe_op op_mod (pe_ix ix_list (pv 0) pe_int (fun _ _ => rfl)) (pe_callB call_len_seq (by rfl) T.len PySem.boot_len (pa_cons (pe_ix ix_list (pv 0) pe_int (fun _ _ => rfl)) pa_nil))) (fun _ _ => rfl))))
        pss_nil)
      (pss_cons (ps_set (i := 2) sc_law_draw.nd rfl (.inl rfl) (pe_op op_mul (pe_op op_mod (pv 2) pe_int) (pe_op op_add (pe_op op_mul (pe_ix ix_list (pv 0) pe_int (fun _ _ => rfl)) (pe_ix ix_list (pv 0) pe_int (fun _ _ => rfl))) pe_int)))
      (pss_cons (ps_asg (pe_op op_mod (pe_op op_add (pe_op op_add (pe_op op_mul (pe_ix ix_list (pv 0) pe_int (fun _ _ => rfl)) pe_int) (pv 2)) (pe_op op_mul pe_int (pe_ix ix_list (pv 0) pe_int (fun _ _ => rfl)))) pe_int) (pg_sub (pv 0) pe_int set_list))
      (pss_one (ps_ret (pe_op op_mod (pe_op op_fdiv (pe_op op_mod (pe_op op_pow (pe_ix ix_list (pv 0) pe_int (fun _ _ => rfl)) pe_int) pe_int) pe_int) (pv 1)))))))))), ?_⟩
    -- if len(pool[0]) > 0
    refine ⟨_, rfl, p, _, _, _, rfl, rfl, SqL.of a1, at_of (j := 0) rfl rfl, g, _, rfl, .inl (SqL.of a2), _, _, rfl, rfl, _, rfl, ite2 (fun e => ?_) (fun e => ?_)⟩
    · obtain ⟨z, r, rfl⟩ : ∃ z r, gs = z :: r := by
        cases gs with
        | nil => exact absurd e (by decide)
        | cons z r => exact ⟨z, r, rfl⟩
      refine ⟨_, rfl, p, _, _, _, rfl, rfl, SqL.of a1, at_of (j := 0) rfl rfl, g, _, _, .int z, rfl, rfl, SqL.of a2, at_of (j := 0) rfl rfl, ?_⟩
      have a1' : ∀ o, upd H g o p = some (.lst [.ref g, .ref s, .int st, .int ct]) := fun o => by
        rw [upd_ne npg]
        exact a1
      have a3' : ∀ o, upd H g o s = some (.lst (ss.map V.int)) := fun o => by
        rw [upd_ne a10]
        exact a3
      refine ⟨_, rfl, _, rfl, _, _, rfl, rfl, ⟨hm0, hm1⟩, _, rfl, p, _, _, _, rfl, rfl, SqL.of a1, at_of (j := 0) rfl rfl, g, _, 0, 0, rfl, rfl, a2, ixN0 (by simp), ?_⟩
      refine ⟨_, rfl, _, rfl, _, _, rfl, rfl, ⟨hm0, hm1⟩, rfl, _, rfl, ite2 (fun e0 => ?_) (fun e0 => ?_)⟩
      · refine ⟨_, rfl, p, _, _, _, rfl, rfl, SqL.of (a1' _), at_of (j := 0) rfl rfl, .inl ⟨rfl, _, SqL.of upd_same⟩, g, _, 0, 0, _, rfl, rfl, upd_same, by decide, by decide, six0 (by simp), rfl, ?_⟩
        refine ⟨_, rfl, _, rfl, _, _, rfl, rfl, hm0, ?_⟩
        refine q _ _ (Int.emod_nonneg _ (by omega)) (Int.emod_lt_of_pos _ hm0) ⟨r, ss, st, ct, ?_, ?_, ?_, ?_, a5, a6, a7, a8, by omega, a10⟩ (fun b o hb n => ?_)
        · rw [upd_upd]
          exact a1' _
        · show upd _ g _ g = _
          rw [upd_same]
          rfl
        · rw [upd_upd]
          exact a3' _
        · simp at a4
          omega
        · rw [upd_ne n.2.1, upd_ne n.2.1]
          exact hb
      · refine ⟨_, rfl, _, rfl, _, _, rfl, rfl, hm0, ?_⟩
        refine q _ _ (Int.emod_nonneg _ (by omega)) (Int.emod_lt_of_pos _ hm0) ⟨(z / m) :: r, ss, st, ct, a1' _, ?_, a3' _, ?_, a5, a6, a7, a8, by omega, a10⟩ (fun b o hb n => ?_)
        · show upd _ g _ g = _
          rw [upd_same]
          rfl
        · simpa using a4
        · rw [upd_ne n.2.1]
          exact hb
    · -- pool[3] = pool[3] + 1
      refine ⟨_, rfl, p, _, _, _, rfl, rfl, SqL.of a1, at_of (j := 3) rfl rfl, _, _, rfl, rfl, _, rfl, p, _, 3, 3, rfl, rfl, a1, rfl, ?_⟩
      have w1 : upd H p (.lst [.ref g, .ref s, .int st, .int (ct + 1)]) p = some (.lst [.ref g, .ref s, .int st, .int (ct + 1)]) := upd_same
      have w2 : ∀ o, upd H p o g = some (.lst (gs.map V.int)) := fun o => by
        rw [upd_ne npg.symm]
        exact a2
      have w3 : ∀ o, upd H p o s = some (.lst (ss.map V.int)) := fun o => by
        rw [upd_ne nps.symm]
        exact a3
      -- cell = 0; if len(pool[1]) > 0
      refine ⟨_, rfl, p, _, _, _, rfl, rfl, SqL.of w1, at_of (j := 1) rfl rfl, s, _, rfl, .inl (SqL.of (w3 _)), _, _, rfl, rfl, _, rfl, ite2 (fun e => ?_) (fun e => ?_)⟩
      · have l0 : 0 < ss.length := by
          have := of_decide_eq_true e
          simpa using this
        have l1 : 0 ≤ (ct + 1) % (ss.length : Int) := Int.emod_nonneg _ (by omega)
        have l2 : (ct + 1) % (ss.length : Int) < ss.length := Int.emod_lt_of_pos _ (by omega)
        obtain ⟨j, ej⟩ : ∃ j : Nat, (ct + 1) % (ss.length : Int) = (j : Int) := ⟨_, (Int.toNat_of_nonneg l1).symm⟩
        have hj : j < ss.length := by omega
        have gj : (ss.map V.int)[j]? = some (.int ss[j]) := get_map (List.getElem?_eq_getElem hj)
        refine ⟨_, rfl, p, _, _, _, rfl, rfl, SqL.of w1, at_of (j := 1) rfl rfl, _, rfl, p, _, _, _, rfl, rfl, SqL.of w1, at_of (j := 3) rfl rfl, _, rfl, p, _, _, _, rfl, rfl, SqL.of w1, at_of (j := 1) rfl rfl, s, _, rfl, .inl (SqL.of (w3 _)), _, _, rfl, rfl, (by rw [List.length_map]; omega),
          s, _, _, _, rfl, rfl, SqL.of (w3 _), at_of (by rw [List.length_map]; exact ej) gj, ?_⟩
        generalize ss[j] = y
        refine ⟨_, rfl, _, _, rfl, rfl, (by show (0 : Int) < _; decide), _, rfl, p, _, _, _, rfl, rfl, SqL.of w1, at_of (j := 3) rfl rfl, _, rfl, p, _, _, _, rfl, rfl, SqL.of w1, at_of (j := 3) rfl rfl, _, _, rfl, rfl, .inl ⟨by omega, by omega⟩, _, _, rfl, rfl, _, _, rfl, rfl, .inl ⟨by omega, by omega⟩, ?_⟩
        refine ⟨_, rfl, p, _, _, _, rfl, rfl, SqL.of w1, at_of (j := 2) rfl rfl, _, _, rfl, rfl, .inl ⟨by omega, by omega⟩, _, rfl, _, _, rfl, rfl, _, rfl, p, _, _, _, rfl, rfl, SqL.of w1, at_of (j := 3) rfl rfl, _, _, rfl, rfl, .inl ⟨by omega, by omega⟩, _, _, rfl, rfl, _, _, rfl, rfl, (by show (0 : Int) < _; decide), _, rfl, p, _, 2, 2, rfl, rfl, w1, rfl, ?_⟩
        dsimp only [List.set]
        generalize hz : ((st * 48271 + y % 2147483629 * ((ct + 1) * (ct + 1) + 1) + 97 * (ct + 1)) % 2147483647 : Int) = z
        have hz0 : 0 ≤ z := by omega
        have hz1 : z < 2147483647 := by omega
        have w5 : upd (upd H p (.lst [.ref g, .ref s, .int st, .int (ct + 1)])) p (.lst [.ref g, .ref s, .int z, .int (ct + 1)]) p = some (.lst [.ref g, .ref s, .int z, .int (ct + 1)]) := upd_same
        refine ⟨_, rfl, p, _, _, _, rfl, rfl, SqL.of w5, at_of (j := 2) rfl rfl, _, _, rfl, rfl, ⟨by decide, by decide, by omega⟩, _, _, rfl, rfl, (by show (0 : Int) < _; decide), _, _, rfl, rfl, ⟨by decide, by decide⟩, _, rfl, _, _, rfl, rfl, hm0, ?_⟩
        refine q _ _ (Int.emod_nonneg _ (by omega)) (Int.emod_lt_of_pos _ hm0) ⟨gs, ss, z, ct + 1, w5, ?_, ?_, a4, a5, hz0, hz1, by omega, by omega, a10⟩ (fun b o hb n => ?_)
        · rw [upd_upd]
          exact w2 _
        · rw [upd_upd]
          exact w3 _
        · rw [upd_upd, upd_ne n.1]
          exact hb
      · refine ⟨_, rfl, _, _, rfl, rfl, (by show (0 : Int) < _; decide), _, rfl, p, _, _, _, rfl, rfl, SqL.of w1, at_of (j := 3) rfl rfl, _, rfl, p, _, _, _, rfl, rfl, SqL.of w1, at_of (j := 3) rfl rfl, _, _, rfl, rfl, .inl ⟨by omega, by omega⟩, _, _, rfl, rfl, _, _, rfl, rfl, .inl ⟨by omega, by omega⟩, ?_⟩
        refine ⟨_, rfl, p, _, _, _, rfl, rfl, SqL.of w1, at_of (j := 2) rfl rfl, _, _, rfl, rfl, .inl ⟨by omega, by omega⟩, _, rfl, _, _, rfl, rfl, _, rfl, p, _, _, _, rfl, rfl, SqL.of w1, at_of (j := 3) rfl rfl, _, _, rfl, rfl, .inl ⟨by omega, by omega⟩, _, _, rfl, rfl, _, _, rfl, rfl, (by show (0 : Int) < _; decide), _, rfl, p, _, 2, 2, rfl, rfl, w1, rfl, ?_⟩
        dsimp only [List.set]
        generalize hz : ((st * 48271 + 0 % 2147483629 * ((ct + 1) * (ct + 1) + 1) + 97 * (ct + 1)) % 2147483647 : Int) = z
        have hz0 : 0 ≤ z := by omega
        have hz1 : z < 2147483647 := by omega
        have w5 : upd (upd H p (.lst [.ref g, .ref s, .int st, .int (ct + 1)])) p (.lst [.ref g, .ref s, .int z, .int (ct + 1)]) p = some (.lst [.ref g, .ref s, .int z, .int (ct + 1)]) := upd_same
        refine ⟨_, rfl, p, _, _, _, rfl, rfl, SqL.of w5, at_of (j := 2) rfl rfl, _, _, rfl, rfl, ⟨by decide, by decide, by omega⟩, _, _, rfl, rfl, (by show (0 : Int) < _; decide), _, _, rfl, rfl, ⟨by decide, by decide⟩, _, rfl, _, _, rfl, rfl, hm0, ?_⟩
        refine q _ _ (Int.emod_nonneg _ (by omega)) (Int.emod_lt_of_pos _ hm0) ⟨gs, ss, z, ct + 1, w5, ?_, ?_, a4, a5, hz0, hz1, by omega, by omega, a10⟩ (fun b o hb n => ?_)
        · rw [upd_upd]
          exact w2 _
        · rw [upd_upd]
          exact w3 _
        · rw [upd_upd, upd_ne n.1]
          exact hb
end

def wordsL : List Str := ["yes", "no", "not", "and", "or", "step", "some", "all", "next", "once", "ever", "until", "unless"]
def lettersS : Str := "abcdefghijklmnopqrstuvwxyz"
structure Wd (K : PySem.W.Frag) (mg : Str → Option Value) where
  aW : Addr
  uL : Value
  gWORDS : mg "WORDS" = some (.ref aW)
  rWORDS : RelV (.ref aW) (.ref aW)
  sW : ∀ H, SqT K H aW (wordsL.map V.str)
  gLETTERS : mg "LETTERS" = some uL
  rLETTERS : RelV (.str lettersS) uL
/-- a text that is_name takes -/
structure GoodName (z : Str) : Prop where
  lo : 1 ≤ z.length
  hi : z.length ≤ 8
  nw : z ∉ wordsL
  al : ∀ c ∈ z.cps.toList, c ∈ lettersS.cps.toList
theorem flat_str (xs : List Str) : (xs.map V.str).all flatV = true := by
  rw [List.all_map, List.all_eq_true]
  exact fun _ _ => rfl
theorem flat_int (xs : List Int) : (xs.map V.int).all flatV = true := by
  rw [List.all_map, List.all_eq_true]
  exact fun _ _ => rfl
theorem inV_str (z : Str) (xs : List Str) : inV (.str z) (xs.map V.str) = decide (z ∈ xs) := by
  unfold inV
  rw [List.any_map]
  by_cases h : z ∈ xs
  · rw [decide_eq_true h, List.any_eq_true]
    exact ⟨z, h, by simp [Function.comp, eqV]⟩
  · rw [decide_eq_false h, List.any_eq_false]
    intro y hy q
    exact h (by simp [Function.comp, eqV] at q; rw [← q]; exact hy)
theorem inV_int (z : Int) (xs : List Int) : inV (.int z) (xs.map V.int) = decide (z ∈ xs) := by
  unfold inV
  rw [List.any_map]
  by_cases h : z ∈ xs
  · rw [decide_eq_true h, List.any_eq_true]
    exact ⟨z, h, by simp [Function.comp, eqV]⟩
  · rw [decide_eq_false h, List.any_eq_false]
    intro y hy q
    exact h (by simp [Function.comp, eqV] at q; rw [← q]; exact hy)

/-! ### rising rows -/
/-- a rising row of numbers below many -/
def RiseI (many : Int) (ns : List Int) : Prop := ns.Pairwise (· < ·) ∧ ∀ n ∈ ns, 0 ≤ n ∧ n < many
theorem rise_len {many : Int} {ns : List Int} (h : RiseI many ns) (hm : 0 ≤ many) : (ns.length : Int) ≤ many := by
  have key : ∀ (ns : List Int) (lo : Int), ns.Pairwise (· < ·) → (∀ n ∈ ns, lo ≤ n ∧ n < many) → lo ≤ many → (ns.length : Int) ≤ many - lo := by
    intro ns
    induction ns with
    | nil =>
      intro lo _ _ h
      show (0 : Int) ≤ _
      omega
    | cons x r ih =>
      intro lo hp hb hl
      obtain ⟨p1, p2⟩ := List.pairwise_cons.mp hp
      have b1 := hb x List.mem_cons_self
      have := ih (x + 1) p2 (fun n hn => ⟨by have := p1 n hn; omega, (hb n (List.mem_cons_of_mem _ hn)).2⟩) (by omega)
      rw [List.length_cons]
      omega
  have := key ns 0 h.1 h.2 hm
  omega
/-- a rising row of names -/
def RiseS (zs : List Str) : Prop := zs.Pairwise (fun x y => x.cps.toList < y.cps.toList) ∧ ∀ z ∈ zs, GoodName z

/-! ### fairtrees.machines, on what it takes -/
structure MachAt (K : PySem.W.Frag) (H : Hp) (m : Addr) (steps : List (List Int)) (marks : List (List Str)) : Prop where
  ex : ∃ (s k : Addr) (sa ka : List Addr), SqT K H m [.ref s, .ref k] ∧ SqT K H s (sa.map V.ref) ∧ SqT K H k (ka.map V.ref) ∧
    Each (fun a ns => SqT K H a (ns.map V.int)) sa steps ∧ Each (fun a zs => SqT K H a (zs.map V.str)) ka marks
structure GoodMach (steps : List (List Int)) (marks : List (List Str)) : Prop where
  len : steps.length = marks.length
  lo : 1 ≤ steps.length
  hi : steps.length ≤ 40
  st : ∀ r ∈ steps, RiseI steps.length r
  mr : ∀ r ∈ marks, RiseS r ∧ r.length ≤ 8
theorem MachAt.imm {K : PySem.W.Frag} {H H' : Hp} {m : Addr} {steps : List (List Int)} {marks : List (List Str)} (M : MachAt K H m steps marks) (e : Imm H H') : MachAt K H' m steps marks := by
  obtain ⟨s, k, sa, ka, h1, h2, h3, h4, h5⟩ := M.ex
  exact ⟨s, k, sa, ka, e.sq h1, e.sq h2, e.sq h3, h4.imp fun _ _ h => e.sq h, h5.imp fun _ _ h => e.sq h⟩
structure WishAt (K : PySem.W.Frag) (H : Hp) (t : Addr) (ws : List (Str × Str)) : Prop where
  ex : ∃ wa : List Addr, SqT K H t (wa.map V.ref) ∧ Each (fun a (x : Str × Str) => SqT K H a [.str x.1, .str x.2]) wa ws
theorem WishAt.imm {K : PySem.W.Frag} {H H' : Hp} {t : Addr} {ws : List (Str × Str)} (M : WishAt K H t ws) (e : Imm H H') : WishAt K H' t ws := by
  obtain ⟨wa, h1, h2⟩ := M.ex
  exact ⟨wa, e.sq h1, h2.imp fun _ _ h => e.sq h⟩
theorem ref_get {as : List Addr} {i : Nat} {v : V} (h : (as.map V.ref)[i]? = some v) : ∃ a, as[i]? = some a ∧ v = .ref a := map_get h
theorem dec_str (x y : Str) : decide (V.str x = V.str y) = decide (x = y) := by
  by_cases h : x = y
  · rw [decide_eq_true h, decide_eq_true (by rw [h])]
  · rw [decide_eq_false h, decide_eq_false fun q => h (V.str.inj q)]
theorem dec_int (x y : Int) : decide (V.int x = V.int y) = decide (x = y) := by
  by_cases h : x = y
  · rw [decide_eq_true h, decide_eq_true (by rw [h])]
  · rw [decide_eq_false h, decide_eq_false fun q => h (V.int.inj q)]
/-- the standings that bear a name -/
def bearersOf (marks : List (List Str)) (z : Str) (n : Nat) : List Int := ((List.range n).filter fun j => decide (z = Str.ofString "") || decide (z ∈ marks.getD j [])).map Int.ofNat
theorem bearersOf_yes {marks : List (List Str)} {z : Str} {n : Nat} (h : (decide (z = Str.ofString "") || decide (z ∈ marks.getD n [])) = true) : bearersOf marks z (n + 1) = bearersOf marks z n ++ [(n : Int)] := by
  unfold bearersOf
  rw [List.range_succ, List.filter_append, List.map_append, List.filter_cons, if_pos h] <;> rfl
theorem bearersOf_no {marks : List (List Str)} {z : Str} {n : Nat} (h : (decide (z = Str.ofString "") || decide (z ∈ marks.getD n [])) = false) : bearersOf marks z (n + 1) = bearersOf marks z n := by
  unfold bearersOf
  rw [List.range_succ, List.filter_append, List.map_append, List.filter_cons, if_neg (by rw [h]; decide)]
  show _ ++ [] = _
  rw [List.append_nil]

/-! ### _law_name, _law_names -/
theorem letters_eq : lettersS.cps.toList = List.range' 97 26 := by decide +kernel
theorem letters_at {j : Nat} (hj : j < 26) : lettersS.cps.toList[j]? = some (97 + j) := by
  rw [letters_eq, List.getElem?_range' hj]
  simp
theorem letters_len : lettersS.length ≤ 100000 := by
  show lettersS.cps.size ≤ 100000
  rw [← Array.length_toList, letters_eq]
  simp
theorem letters_mem {j : Nat} (hj : j < 26) : 97 + j ∈ lettersS.cps.toList := List.mem_of_getElem? (letters_at hj)
def Alpha (z : Str) : Prop := ∀ c ∈ z.cps.toList, c ∈ lettersS.cps.toList
theorem app_list (x y : Str) : (x ++ y).cps.toList = x.cps.toList ++ y.cps.toList := by
  show (x.cps ++ y.cps).toList = _
  rw [Array.toList_append]
theorem app_len (x y : Str) : (x ++ y).length = x.length + y.length := by
  show (x ++ y).cps.size = x.cps.size + y.cps.size
  rw [← Array.length_toList, ← Array.length_toList, ← Array.length_toList, app_list, List.length_append]
theorem alpha_app {x : Str} {j : Nat} (h : Alpha x) (hj : j < 26) : Alpha (x ++ ⟨#[97 + j]⟩) := fun c hc => by
  rw [app_list] at hc
  rcases List.mem_append.mp hc with hc | hc
  · exact h c hc
  · have e : c = 97 + j := by simpa using hc
    rw [e]
    exact letters_mem hj
theorem pigeon {α : Type} [BEq α] [LawfulBEq α] : ∀ (l m : List α), l.Nodup → (∀ x ∈ l, x ∈ m) → l.length ≤ m.length
  | [], _, _, _ => Nat.zero_le _
  | x :: r, m, nd, h => by
    obtain ⟨n1, n2⟩ := List.nodup_cons.mp nd
    have hx := h x List.mem_cons_self
    have := pigeon r (m.erase x) n2 fun y hy => (List.mem_erase_of_ne (fun q => n1 (by rw [← q]; exact hy))).mpr (h y (List.mem_cons_of_mem _ hy))
    rw [List.length_erase_of_mem hx] at this
    have : 0 < m.length := List.length_pos_of_mem hx
    rw [List.length_cons]
    omega
/-- what the loop tries at its k-th turn -/
def cand (nm : Str) (last k : Nat) : Str := nm ++ ⟨#[97 + (last + k) % 26]⟩
theorem cand_inj {nm : Str} {last j k : Nat} (hj : j < 26) (hk : k < 26) (h : cand nm last j = cand nm last k) : j = k := by
  have e : (cand nm last j).cps.toList = (cand nm last k).cps.toList := by rw [h]
  unfold cand at e
  rw [app_list, app_list] at e
  have e2 := List.append_cancel_left e
  simp at e2
  omega
theorem cand_some {nm : Str} {last : Nat} {words taken : List Str} (hw : words.length + taken.length < 26) (h : ∀ j, j < 26 → cand nm last j ∈ words ∨ cand nm last j ∈ taken) : False := by
  have nd : ((List.range 26).map (cand nm last)).Nodup := by
    refine List.pairwise_map.mpr ((List.pairwise_lt_range (n := 26)).imp_of_mem fun ha hb hab e => ?_)
    have := cand_inj (List.mem_range.mp ha) (List.mem_range.mp hb) e
    omega
  have := pigeon _ (words ++ taken) nd fun x hx => by
    obtain ⟨j, hj, rfl⟩ := List.mem_map.mp hx
    exact List.mem_append.mpr (h j (List.mem_range.mp hj))
  rw [List.length_map, List.length_range, List.length_append] at this
  omega
abbrev s_law_name : Stmt := topS 44
theorem sc_law_name : FnScope ["_law_pool_here", "_law_start", "_law_taken", "_law_letters", "_law_name_here", "_law_k", "_law_last", "_law_words", "_law_found"] ["_law_pool_here", "_law_start", "_law_taken"] (defScope s_law_name) := ⟨rfl, rfl, rfl, by decide +kernel, rfl, by decide +kernel, by decide +kernel⟩
abbrev s_law_names : Stmt := topS 45
theorem sc_law_names : FnScope ["_law_pool_here", "_law_many", "_law_letters", "_law_start", "_law_k", "_law_names_here"] ["_law_pool_here", "_law_many"] (defScope s_law_names) := ⟨rfl, rfl, rfl, by decide +kernel, rfl, by decide +kernel, by decide +kernel⟩
section
variable {P : Program} {w : World} {K : PySem.W.Frag} {mg : Str → Option Value} {base : Heap}
def spLName : Sp := fun vs H Q _ => ∃ (a : PA) (c : Nat) (start : Str) (t : Addr) (taken : List Str), vs = [.ref a.p, .str start, .ref t] ∧ Pool H a c ∧ c < 900000 ∧ H t = some (.lst (taken.map V.str)) ∧ Off a t ∧ Alpha start ∧ start.length ≤ 4 ∧ taken.length ≤ 12 ∧
  ∀ H' z, GoodName z → z ∉ taken → Pool H' a (c + 5) → Kp a H H' → Q (.str z) H'
theorem ok_lname {f : Addr} {fd : FuncData} (F : Fun K "_law_name" "_law_name" s_law_name f fd) (T : Bi mg) (c_law_draw : Cal P w K mg base 1 "_law_draw" ["_law_pool_here", "_law_many"] spDraw) : FnOk P w K mg base CX0 2 f fd ["_law_pool_here", "_law_start", "_law_taken"] spLName := by
  refine F.ok sc_law_name (fun vs H Q E h => ?_) (fun cdv A outer s H vs Q E hr h => ?_)
  · obtain ⟨a, c, start, t, taken, rfl, _⟩ := h
    rfl
  · obtain ⟨a, c, start, t, taken, rfl, PP, hc, ht, ot, al, sl, tl, q⟩ := h
    refine ⟨_, (pss_cons (ps_set (i := 3) sc_law_name.nd rfl (.inl rfl) pe_str)
      (pss_cons (ps_set (i := 4) sc_law_name.nd rfl (.inl rfl) (pv 1))
      (pss_cons (ps_for PassesOwn.never rfl (pi_range1 (by rfl) T.range (pa_cons (pe_call c_law_draw.G hr (by rfl) c_law_draw.g c_law_draw.kp c_law_draw.b .nil pass0 (pa_cons (pv 0) (pa_cons pe_int pa_nil))) pa_nil)) (pg_name (i := 5) sc_law_name.nd rfl (.inl rfl))
        (pss_one (ps_set (i := 4) sc_law_name.nd rfl (.inl rfl) (pe_op op_add_str (pv 4) (pe_ix ix_str (pv 3) (pe_call c_law_draw.G hr (by rfl) c_law_draw.g c_law_draw.kp c_law_draw.b .nil pass0 (pa_cons (pv 0) (pa_cons pe_int pa_nil))) (fun _ _ => rfl))))))
      (pss_cons (ps_set (i := 6) sc_law_name.nd rfl (.inl rfl) (pe_call c_law_draw.G hr (by rfl) c_law_draw.g c_law_draw.kp c_law_draw.b .nil pass0 (pa_cons (pv 0) (pa_cons pe_int pa_nil))))
      (pss_cons (ps_set (i := 7) sc_law_name.nd rfl (.inl rfl) (pe_lst (pa_cons pe_str (pa_cons pe_str (pa_cons pe_str (pa_cons pe_str (pa_cons pe_str (pa_cons pe_str (pa_cons pe_str (pa_cons pe_str (pa_cons pe_str (pa_cons pe_str (pa_cons pe_str (pa_cons pe_str (pa_cons pe_str pa_nil)))))))))))))))
      (pss_cons (ps_for PassesOwn.never rfl (pi_range1 (by rfl) T.range (pa_cons pe_int pa_nil)) (pg_name (i := 5) sc_law_name.nd rfl (.inl rfl))
        (pss_cons (ps_set (i := 8) sc_law_name.nd rfl (.inl rfl) (pe_op op_add_str (pv 4) (pe_ix ix_str (pv 3) (pe_op op_mod (pe_op op_add (pv 6) (pv 5)) pe_int) (fun _ _ => rfl))))
        (pss_one (ps_if (PW.pt (pw_and (pt_cmpR op_notIn_seq (pv 8) (pv 7) (by rfl)) (pw_and1 (pt_cmpR op_notIn_seq (pv 8) (pv 2) (by rfl)))))
          (pss_one (ps_ret (pv 8)))
          pss_nil))))
      (pss_one (ps_ret (pe_op op_add_str (pv 4) pe_str))))))))), ?_⟩
    -- for k in range(draw(pool, 4))
    refine ⟨_, rfl, _, rfl, a, c, 4, rfl, PP, by omega, by decide, by decide, fun H1 r r0 r1 P1 k1 => ⟨r, rfl, by omega, by omega, for_range (lo := 0) (n := r.toNat) (fun i σ H' => ∃ nm y,
      σ = [some (.ref a.p), some (.str start), some (.ref t), some (.str lettersS), some (.str nm), y, none, none, none] ∧ Alpha nm ∧ nm.length = start.length + i ∧ Pool H' a (c + 1 + i) ∧ Kp a H H')
      ⟨start, none, rfl, al, rfl, P1, k1⟩ ?_ ?_⟩⟩
    · rintro i σ H2 hi ⟨nm, y, rfl, an, ln, P2, k2⟩
      refine ⟨_, rfl, _, rfl, _, rfl, a, _, 26, rfl, P2, by omega, by decide, by decide, fun H3 r' r0' r1' P3 k3 => ?_⟩
      obtain ⟨j, rfl⟩ : ∃ j : Nat, r' = (j : Int) := ⟨r'.toNat, by omega⟩
      have hj : j < 26 := by omega
      refine ⟨lettersS, _, 97 + j, rfl, rfl, szOk letters_len, atI_nat (letters_at hj), nm, _, rfl, rfl, ?_, ?_⟩
      · show nm.length + 1 ≤ sizeLine
        exact szOk (by omega)
      · refine ⟨nm ++ ⟨#[97 + j]⟩, _, rfl, alpha_app an hj, ?_, ?_, k2.trans k3⟩
        · rw [app_len, ln]
          rfl
        · exact P3
    · rintro σ H2 ⟨nm, y, rfl, an, ln, P2, k2⟩
      -- last = draw(pool, 26); words
      refine ⟨_, rfl, a, _, 26, rfl, P2, by omega, by decide, by decide, fun H3 r' r0' r1' P3 k3 => ?_⟩
      obtain ⟨last, rfl⟩ : ∃ j : Nat, r' = (j : Int) := ⟨r'.toNat, by omega⟩
      refine ⟨by show 13 ≤ sizeLine; decide, fun l hl => ?_⟩
      have hl2 : upd H3 l (.lst (wordsL.map V.str)) l = some (.lst (wordsL.map V.str)) := upd_same
      have ht3 : H3 t = some (.lst (taken.map V.str)) := (k2.trans k3) _ _ ht ot
      have ht4 : ∀ o, upd H3 l o t = some (.lst (taken.map V.str)) := fun o => by
        rw [upd_ne (ne_of_none ht3 hl)]
        exact ht3
      refine ⟨26, rfl, by decide, by decide, for_range (lo := 0) (n := 26) (fun i σ H' => ∃ y z,
        σ = [some (.ref a.p), some (.str start), some (.ref t), some (.str lettersS), some (.str nm), y, some (.int last), some (.ref l), z] ∧ H' = upd H3 l (.lst (wordsL.map V.str)) ∧ ∀ j, j < i → cand nm last j ∈ wordsL ∨ cand nm last j ∈ taken)
        ⟨_, _, rfl, rfl, fun j hj => absurd hj (Nat.not_lt_zero _)⟩ ?_ ?_⟩
      · rintro i σ H' hi ⟨y', z, rfl, rfl, all⟩
        have hm : (last + i) % 26 < 26 := Nat.mod_lt _ (by decide)
        have em : ((last : Int) + (0 + (i : Int))) % 26 = (((last + i) % 26 : Nat) : Int) := by omega
        refine ⟨_, rfl, _, rfl, _, rfl, _, rfl, _, _, rfl, rfl, _, _, rfl, rfl, (by show (0 : Int) < _; decide), lettersS, _, 97 + (last + i) % 26, rfl, rfl, szOk letters_len, (by
          show atI _ (((last : Int) + (0 + (i : Int))) % 26) = _
          rw [em]
          exact atI_nat (letters_at hm)), nm, _, rfl, rfl, ?_, ?_⟩
        · show nm.length + 1 ≤ sizeLine
          exact szOk (by omega)
        · refine ⟨_, rfl, _, rfl, l, _, rfl, .inl (SqL.of hl2), rfl, flat_str _, _, rfl, ?_⟩
          rw [inV_str]
          refine ite2 (fun e => ?_) (fun e => ?_)
          · refine ⟨_, rfl, _, rfl, t, _, rfl, .inl (SqL.of (ht4 _)), rfl, flat_str _, _, rfl, ?_⟩
            rw [inV_str]
            refine ite2 (fun e2 => ?_) (fun e2 => ?_)
            · have n1 : cand nm last i ∉ wordsL := notdec e
              have n2 : cand nm last i ∉ taken := notdec e2
              have lc : (cand nm last i).length = nm.length + 1 := by
                unfold cand
                rw [app_len]
                rfl
              refine ⟨_, rfl, q _ (cand nm last i) ⟨by omega, by omega, n1, alpha_app an hm⟩ n2 ((P3.upd (P3.off hl)).mono (by omega)) ((k2.trans k3).mut ((k2.trans k3).free hl (P3.off hl)))⟩
            · refine ⟨_, _, rfl, rfl, fun j hj => ?_⟩
              by_cases h : j < i
              · exact all j h
              · have e3 : j = i := by omega
                rw [e3]
                exact .inr (dec_of e2)
          · refine iteF ⟨_, _, rfl, rfl, fun j hj => ?_⟩
            by_cases h : j < i
            · exact all j h
            · have e3 : j = i := by omega
              rw [e3]
              exact .inl (dec_of e)
      · rintro σ H' ⟨y', z, rfl, rfl, all⟩
        exact (cand_some (words := wordsL) (by show 13 + taken.length < 26; omega) all).elim
def spLNames : Sp := fun vs H Q _ => ∃ (a : PA) (c : Nat) (n : Nat), vs = [.ref a.p, .int n] ∧ Pool H a c ∧ c < 800000 ∧ n ≤ 12 ∧
  ∀ (H' : Hp) (l : Addr) (zs : List Str), Pool H' a (c + 5 + n * 5) → Kp a H H' → H' l = some (.lst (zs.map V.str)) → Off a l → zs.Nodup → (∀ z ∈ zs, GoodName z) → zs.length = n → Q (.ref l) H'
theorem ok_lnames {f : Addr} {fd : FuncData} (F : Fun K "_law_names" "_law_names" s_law_names f fd) (T : Bi mg) (c_law_draw : Cal P w K mg base 1 "_law_draw" ["_law_pool_here", "_law_many"] spDraw) (c_law_name : Cal P w K mg base 2 "_law_name" ["_law_pool_here", "_law_start", "_law_taken"] spLName) :
    FnOk P w K mg base CX0 3 f fd ["_law_pool_here", "_law_many"] spLNames := by
  refine F.ok sc_law_names (fun vs H Q E h => ?_) (fun cdv A outer s H vs Q E hr h => ?_)
  · obtain ⟨a, c, n, rfl, _⟩ := h
    rfl
  · obtain ⟨a, c, n, rfl, PP, hc, hn, q⟩ := h
    refine ⟨_, (pss_cons (ps_set (i := 2) sc_law_names.nd rfl (.inl rfl) pe_str)
      (pss_cons (ps_set (i := 3) sc_law_names.nd rfl (.inl rfl) pe_str)
      (pss_cons (ps_for PassesOwn.never rfl (pi_range1 (by rfl) T.range (pa_cons (pe_ix ix_list (pe_lst (pa_cons pe_int (pa_cons pe_int (pa_cons pe_int (pa_cons pe_int pa_nil))))) (pe_call c_law_draw.G (hr.mono (by decide)) (by rfl) c_law_draw.g c_law_draw.kp c_law_draw.b .nil pass0 (pa_cons (pv 0) (pa_cons pe_int pa_nil))) (fun _ _ => rfl)) pa_nil)) (pg_name (i := 4) sc_law_names.nd rfl (.inl rfl))
        (pss_one (ps_set (i := 3) sc_law_names.nd rfl (.inl rfl) (pe_op op_add_str (pv 3) (pe_ix ix_str (pv 2) (pe_call c_law_draw.G (hr.mono (by decide)) (by rfl) c_law_draw.g c_law_draw.kp c_law_draw.b .nil pass0 (pa_cons (pv 0) (pa_cons pe_int pa_nil))) (fun _ _ => rfl))))))
      (pss_cons (ps_set (i := 5) sc_law_names.nd rfl (.inl rfl) (pe_lst pa_nil))
      (pss_cons (ps_for PassesOwn.never rfl (pi_range1 (by rfl) T.range (pa_cons (pv 1) pa_nil)) (pg_name (i := 4) sc_law_names.nd rfl (.inl rfl))
        (pss_one (ps_expr (pe_bm PySem.F.plainAttrs_list PySem.F.slot_list_append PySem.F.type_list_append mt_append (pv 5) (pa_cons (pe_call c_law_name.G hr (by rfl) c_law_name.g c_law_name.kp c_law_name.b .nil pass0 (pa_cons (pv 0) (pa_cons (pv 3) (pa_cons (pv 5) pa_nil)))) pa_nil)))))
      (pss_one (ps_ret (pv 5)))))))), ?_⟩
    refine ⟨by show 4 ≤ sizeLine; decide, fun d hd => ⟨_, rfl, a, c, 4, rfl, PP.upd (PP.off hd), by omega, by decide, by decide, fun H1 r r0 r1 P1 k1 => ?_⟩⟩
    have k1' : Kp a H H1 := (skp (same_upd hd)).trans k1
    have hd1 : H1 d = some (.lst [.int 0, .int 0, .int 1, .int 4]) := k1 _ _ upd_same (PP.off hd)
    obtain ⟨v, v0, v1, hv⟩ : ∃ v : Int, 0 ≤ v ∧ v ≤ 4 ∧ atI [V.int 0, .int 0, .int 1, .int 4] r = some (.int v) := by
      have : r = 0 ∨ r = 1 ∨ r = 2 ∨ r = 3 := by omega
      rcases this with rfl | rfl | rfl | rfl
      · exact ⟨0, by decide, by decide, rfl⟩
      · exact ⟨0, by decide, by decide, rfl⟩
      · exact ⟨1, by decide, by decide, rfl⟩
      · exact ⟨4, by decide, by decide, rfl⟩
    refine ⟨d, _, r, .int v, rfl, rfl, SqL.of hd1, hv, v, rfl, by omega, by omega, for_range (lo := 0) (n := v.toNat) (fun i σ H' => ∃ nm y,
      σ = [some (.ref a.p), some (.int n), some (.str lettersS), some (.str nm), y, none] ∧ Alpha nm ∧ nm.length = i ∧ Pool H' a (c + 1 + i) ∧ Kp a H H')
      ⟨Str.ofString "", none, rfl, (fun c hc => absurd hc (by rw [show (Str.ofString "").cps.toList = [] by decide +kernel]; exact List.not_mem_nil)), (by decide +kernel), P1, k1'⟩ ?_ ?_⟩
    · rintro i σ H2 hi ⟨nm, y, rfl, an, ln, P2, k2⟩
      refine ⟨_, rfl, _, rfl, _, rfl, a, _, 26, rfl, P2, by omega, by decide, by decide, fun H3 r' r0' r1' P3 k3 => ?_⟩
      obtain ⟨j, rfl⟩ : ∃ j : Nat, r' = (j : Int) := ⟨r'.toNat, by omega⟩
      have hj : j < 26 := by omega
      refine ⟨lettersS, _, 97 + j, rfl, rfl, szOk letters_len, atI_nat (letters_at hj), nm, _, rfl, rfl, ?_, ?_⟩
      · show nm.length + 1 ≤ sizeLine
        exact szOk (by omega)
      · refine ⟨nm ++ ⟨#[97 + j]⟩, _, rfl, alpha_app an hj, ?_, P3, k2.trans k3⟩
        rw [app_len, ln]
        rfl
    · rintro σ H2 ⟨nm, y, rfl, an, ln, P2, k2⟩
      refine ⟨Nat.zero_le _, fun l hl => ?_⟩
      have ol := P2.off hl
      have hl0 := k2.free hl ol
      refine ⟨_, rfl, n, rfl, by omega, by omega, for_range (lo := 0) (n := (n : Int).toNat) (fun i σ H' => ∃ (zs : List Str) (y : Option V),
        σ = [some (.ref a.p), some (.int n), some (.str lettersS), some (.str nm), y, some (.ref l)] ∧ zs.length = i ∧ zs.Nodup ∧ (∀ z ∈ zs, GoodName z) ∧ H' l = some (.lst (zs.map V.str)) ∧ Pool H' a (c + 5 + i * 5) ∧ Kp a H H')
        ⟨[], _, rfl, rfl, List.nodup_nil, (fun z hz => absurd hz List.not_mem_nil), upd_same, ((P2.mono (by omega)).upd ol), k2.mut hl0⟩ ?_ ?_⟩
      · rintro i σ H3 hi ⟨zs, y', rfl, lz, nz, gz, hz, P3, k3⟩
        refine ⟨_, rfl, .inl ⟨rfl, _, SqL.of hz⟩, _, rfl, _, rfl, _, rfl, a, _, nm, l, zs, rfl, P3, by omega, hz, ol, an, by omega, by omega, fun H4 z g4 n4 P4 k4 => ?_⟩
        have hz4 := k4 _ _ hz ol
        refine ⟨l, _, _, rfl, rfl, hz4, szLt (by rw [List.length_map]; omega), zs ++ [z], _, rfl, ?_, ?_, ?_, ?_, ?_, ?_⟩
        · rw [List.length_append, lz]
          rfl
        · rw [List.nodup_append]
          refine ⟨nz, by simp, fun x hx y hy e => ?_⟩
          have : y = z := by simpa using hy
          rw [this] at e
          exact n4 (by rw [← e]; exact hx)
        · intro x hx
          rcases List.mem_append.mp hx with hx | hx
          · exact gz x hx
          · have : x = z := by simpa using hx
            rw [this]
            exact g4
        · rw [upd_same, List.map_append]
          rfl
        · rw [show c + 5 + (i + 1) * 5 = c + 5 + i * 5 + 5 by omega]
          exact P4.upd ol
        · exact (k3.trans k4).mut hl0
      · rintro σ H3 ⟨zs, y', rfl, lz, nz, gz, hz, P3, k3⟩
        rw [Int.toNat_natCast] at lz P3
        exact ⟨_, rfl, q _ l zs P3 k3 hz ol nz gz lz⟩
end

/-! ### sets of keys: {e for t in it if ..}, len -/
namespace SCK
open PySem PySem.Spec PyProof.Rows L2
section
variable {X : Cx}
/-- what one turn puts into the set at D -/
def Put (P : Program) (w : World) (D : Addr) (Nx : Hp → Prop) : V → Hp → Prop := fun y H => ∃ (k : Key) (S : Key → Bool) (n : Nat), y = kV k ∧ H D = some (SetK P w D S n) ∧ n + 1 < scanBound ∧ Nx (upd H D (SetK P w D (fun j => S j || decide (j = k)) (if S k = true then n else n + 1)))
def Turns (P : Program) (w : World) (D : Addr) (J : It) (g : TG) (tt : TT) (te : TE) (vs : List Nat) (σ : L2.St) (Qd : Hp → Prop) (W : Nat → Nat → Hp → Prop) : Prop := ∀ i m H, W i m H →
  (J.stop i H ∧ Qd H) ∨ (J.go i H ∧ ∃ Nx : Hp → Prop, (∀ H', Nx H' → ∃ m', m' < m ∧ W (i + 1) m' H') ∧ ∀ x H', J.yld i H x H' → g x (wipe σ vs) H' fun σ2 H2 => wipe σ2 vs = wipe σ vs ∧ tt σ2 H2 fun b H3 =>
    if b = true then te σ2 H3 (Put P w D Nx) else Nx H3)
def tScK (P : Program) (w : World) (wi : TI) (g : TG) (tt : TT) (te : TE) (vs : List Nat) : TE := fun σ H Q => wi σ H fun J H1 => ∀ D, H1 D = none → ∃ W : Nat → Nat → Hp → Prop, (∃ m, W 0 m (upd H1 D (SetK P w D (fun _ => false) 0))) ∧ Turns P w D J g tt te vs σ (fun H => Q (.ref D) H) W
/-- the set that a comprehension begins with -/
theorem fresh {h : Heap} (P : Program) (w : World) : (h.push { cls := .type "set", dict := none, data := .set #[] 0 (.fresh 0 0 (!w.params.followText "set-order")) }).SetOf (mixKind P w) h.objs.size (fun _ => false) 0 :=
  ⟨_, #[], 0, _, Heap.get?_push_size _ rfl, ⟨rfl, rfl, rfl⟩, rfl, (fun e he => by simp at he), (fun k => by simp), (by decide), (by rfl), rfl⟩
theorem pe_scK {elt tg iter : Expr} {ifs : List Expr} {scope : Scope} {own : List (PySem.Str × Nat)} {pos : Pos} {wi : TI} {g : TG} {tt : TT} {te : TE} (hc : X.calm = true) (hN : X.N.Nodup) (hi : PI X tg iter wi) (ok : BlkOk X.N X.env.scope scope own)
    (hg : ∀ (s : Shared) (H : Hp) (C : Addr) (cl : List (PySem.Str × Addr)) (fp : List Addr), PG (X.blk s H scope (compEnvC scope cl C X.env) fp) tg g) (ht : ∀ (s : Shared) (H : Hp) (C : Addr) (cl : List (PySem.Str × Addr)) (fp : List Addr), PTs (X.blk s H scope (compEnvC scope cl C X.env) fp) ifs tt)
    (he : ∀ (s : Shared) (H : Hp) (C : Addr) (cl : List (PySem.Str × Addr)) (fp : List Addr), PE (X.blk s H scope (compEnvC scope cl C X.env) fp) elt te) (hs : ∀ x, foldedSetIterable iter X.env x = pure x := by intro _; rfl) :
    PE X (.SetComp elt [⟨tg, iter, ifs, 0⟩] scope pos) (tScK X.prog X.w wi g tt te (own.map (·.2))) := by
  refine ⟨fun pins s σ H Q I h => ?_⟩
  rw [PpSet.eval_SetComp]
  have frees : ∀ y ∈ scope.names, y.2 = .free → ∃ c, X.env.cells.lookup y.1 = some c := fun y hy e => (ok.free y hy e).elim (fun k => I.ok.has _ (.inl k)) fun k => I.ok.has _ (.inr k)
  refine wpAny_comprehension_free (use := none) rfl hs (closure_ok frees) ok.kind (fun y hy e => by rw [ok.uniq y hy, e]) (thn (hi.run pins s σ H _ I h) fun _ s1 hx => thn hx fun itv s2 ⟨it, fp, tn, J, H2, e, I2, T, st2, f2, q⟩ => ?_)
  subst e
  refine PpSet.newSet_ok (newEnv_comp ?_)
  obtain ⟨W, ⟨m0, w0⟩, turn⟩ := q s2.heap.objs.size (I2.hok.fresh (Nat.le_refl _))
  -- the new set stands
  have I3 : Inv X pins σ (upd H2 s2.heap.objs.size (SetK X.prog X.w s2.heap.objs.size (fun _ => false) 0)) { s2 with heap := s2.heap.push { cls := .type "set", dict := none, data := .set #[] 0 (.fresh 0 0 (!X.w.params.followText "set-order")) } } :=
    I2.laid (t' := s2.toks) (fun b o e => Heap.get?_push_of_some _ e) (Nat.le_refl _) (setK_new (fresh X.prog X.w))
  have hfp : ∀ b ∈ fp, b < s2.heap.objs.size := fun b hb => let ⟨_, e, _⟩ := T.obj _ _ st2 b hb; Heap.lt_size e
  have f3 : ∀ b ∈ fp, FpOk X pins (upd H2 s2.heap.objs.size (SetK X.prog X.w s2.heap.objs.size (fun _ => false) 0)) b ∧ b < (s2.heap.push { cls := .type "set", dict := none, data := .set #[] 0 (.fresh 0 0 (!X.w.params.followText "set-order")) }).objs.size := fun b hb =>
    ⟨⟨by rw [upd_ne (Nat.ne_of_lt (hfp b hb))]; exact (f2 b hb).1, (f2 b hb).2⟩, by rw [Heap.size_push]; exact Nat.lt_succ_of_lt (hfp b hb)⟩
  have st3 : tn 0 (s2.heap.push { cls := .type "set", dict := none, data := .set #[] 0 (.fresh 0 0 (!X.w.params.followText "set-order")) }) := T.keep _ _ _ st2 fun b _ o e => Heap.get?_push_of_some _ e
  generalize s2.heap.objs.size = D at w0 turn I3 f3
  generalize upd H2 D (SetK X.prog X.w D (fun _ => false) 0) = H3 at w0 I3 f3
  generalize s2.heap.push { cls := .type "set", dict := none, data := .set #[] 0 (.fresh 0 0 (!X.w.params.followText "set-order")) } = hp3 at I3 f3 st3 ⊢
  have f3 : ∀ b ∈ fp, FpOk X pins H3 b ∧ b < ({ s2 with heap := hp3 } : Shared).heap.objs.size := f3
  have st3 : tn 0 ({ s2 with heap := hp3 } : Shared).heap := st3
  generalize ({ s2 with heap := hp3 } : Shared) = s3 at I3 f3 st3 ⊢
  have I4 := block_start I3 ok hN f3
  have pg := hg s3 H3 s3.heap.objs.size (cellsFrom (s3.heap.objs.size + 1) scope.names (cloFrom X.env.cells scope.names [])) fp
  have pt := ht s3 H3 s3.heap.objs.size (cellsFrom (s3.heap.objs.size + 1) scope.names (cloFrom X.env.cells scope.names [])) fp
  have pe := he s3 H3 s3.heap.objs.size (cellsFrom (s3.heap.objs.size + 1) scope.names (cloFrom X.env.cells scope.names [])) fp
  change codeAny _ _ (.compStart (.SetComp elt [⟨tg, iter, ifs, 0⟩] scope pos) 0 (.ref it) (.ref D) (compEnvC scope (cellsFrom (s3.heap.objs.size + 1) scope.names (cloFrom X.env.cells scope.names [])) s3.heap.objs.size X.env)) (compPost (model X.prog X.w) X.A X.xe none _ (.ref D) s3.heap.objs.size) { s3 with heap := pushCells (s3.heap.push { cls := .type "dict", data := .dict #[] }) scope.names }
  have st4 : tn 0 ({ s3 with heap := pushCells (s3.heap.push { cls := .type "dict", data := .dict #[] }) scope.names } : Shared).heap := T.keep _ _ _ st3 fun b _ o e => pushCells_keeps _ _ _ _ (Heap.get?_push_of_some _ e)
  generalize hce : compEnvC scope (cellsFrom (s3.heap.objs.size + 1) scope.names (cloFrom X.env.cells scope.names [])) s3.heap.objs.size X.env = ce at I4 pg pt pe ⊢
  have cl : ce.locals = s3.heap.objs.size := by subst hce; rfl
  generalize ({ s3 with heap := pushCells (s3.heap.push { cls := .type "dict", data := .dict #[] }) scope.names } : Shared) = s4 at I4 st4 ⊢
  have fps : ∀ {σ' : L2.St} {H' : Hp} {s' : Shared}, Inv (X.blk s3 H3 scope ce fp) [] σ' H' s' → (∀ b ∈ fp, H' b = none) → ∀ b ∈ fp, FpOk (X.blk s3 H3 scope ce fp) [] H' b := fun I' n b hb =>
    ⟨n b hb, (I'.ok.exf b hb).1, I'.ok.exfs b hb, .inl hb, fun x c e => (I'.ok.exf b hb).2 x c e, fun p hp => absurd (show p ∈ ([] : List (Addr × Obj)) ++ [] from hp) (by simp)⟩
  refine PpSet.codeAny_compStart_set ?loop (T.self X.A 0 _ _ _ st4 ?loop)
  refine PpSet.compLoopS_any (fun n s' => ∃ i H', Inv (X.blk s3 H3 scope ce fp) [] (wipe σ (own.map (·.2))) H' s' ∧ tn i s'.heap ∧ (∀ b ∈ fp, H' b = none) ∧ W i n H') ?_ m0 ⟨0, H3, I4, st4, fun b hb => (f3 b hb).1.1, w0⟩
  rintro n s5 ⟨i, H5, I5, st5, n5, w5⟩
  rcases turn i n H5 w5 with ⟨stop, qq⟩ | ⟨go, Nx, hNx, step⟩
  · refine thnF (T.done (X.blk s3 H3 scope ce fp) rfl rfl rfl hc i [] s5 _ H5 (fun _ _ => False) I5 (fps I5 n5) st5 stop) fun r s6 ⟨hr, I6⟩ => ?_
    subst hr
    have nC : H5 s3.heap.objs.size = none := by
      have z : H5 ce.locals = none := I6.free
      rwa [cl] at z
    obtain ⟨m, hn, _⟩ := I6.loc
    have hn : s6.heap.Ns ce.locals m := hn
    rw [cl] at hn
    have I7 : Inv X pins σ H5 s6 := I3.call' (ch := fp) I6.os I6.base I6.hok I6.bare fun b hb => ⟨(f3 b hb).1.2.2.2.1, (f3 b hb).1.2.1, (f3 b hb).1.2.2.2.2.1, (f3 b hb).1.2.2.2.2.2⟩
    obtain ⟨f0, f1, _, f4, f5, f6⟩ := I3.fpOk (Nat.le_refl _) nC
    exact ⟨m, hn, fun h'' sb => ⟨.ref D, H5, I7.turned (t' := s6.toks) (fun b o hb e => (sb.2 b hb).trans e) f0 f1 f4 f5 f6, rfl, qq⟩⟩
  · refine thnF (T.item (X.blk s3 H3 scope ce fp) rfl rfl rfl hc i [] s5 _ H5 (fun _ _ => False) I5 (fps I5 n5) st5 go) fun r s6 ⟨u, hr, h6⟩ => ?_
    subst hr
    refine thnF h6 fun _ s7 ⟨x, H7, I7, r7, y7, st7, n7⟩ => ?_
    refine thnF (pg.run _ s7 _ H7 x u _ (I7.pinned (fps I7 n7) (T.obj _ _ st7)) r7 (step x H7 y7)) fun _ s8 ⟨σ8, H8, I8, hw8, q8⟩ => thnF (pt.run _ s8 σ8 H8 _ I8 q8) fun b s9 ⟨H9, I9, q9⟩ => ?_
    have fin : ∀ {s' : Shared} {H' : Hp}, Inv (X.blk s3 H3 scope ce fp) ([] ++ pinsAt fp s7.heap) σ8 H' s' → Nx H' → ∃ m, m < n ∧ ∃ i H', Inv (X.blk s3 H3 scope ce fp) [] (wipe σ (own.map (·.2))) H' s' ∧ tn i s'.heap ∧ (∀ b ∈ fp, H' b = none) ∧ W i m H' := fun {s' H'} I' nx => by
      obtain ⟨m', hm, w'⟩ := hNx H' nx
      have at_ : ∀ b ∈ fp, ∀ o, s7.heap.get? b = some o → s'.heap.get? b = some o ∧ H' b = none := fun b hb o e =>
        ⟨(I'.pin (b, o) (List.mem_append_right _ (List.mem_append_right _ (mem_pinsAt hb e)))).1, (I'.pin (b, o) (List.mem_append_right _ (List.mem_append_right _ (mem_pinsAt hb e)))).2.1⟩
      refine ⟨m', hm, i + 1, H', (I'.unpinned (pins := [])).weak (by rw [← hw8, wipe_length]) (fun j v e => ?_), T.keep _ _ _ st7 fun b hb o e => (at_ b hb o e).1, fun b hb => let ⟨o, e, _⟩ := T.obj _ _ st7 b hb; (at_ b hb o e).2, w'⟩
      rw [← hw8] at e
      exact (wipe_some e).1
    cases b with
    | false => exact fin I9 q9
    | true =>
      refine thnF (pe.run _ s9 σ8 H9 _ I9 q9) fun z s10 ⟨yv, H10, I10, r10, k, S0, n0, ey, hD10, hz10, nx⟩ => ?_
      subst ey
      refine call_set_add (kV_is r10) (key_scan r10) (setK_get (X := X.blk s3 H3 scope ce fp) I10 hD10) hz10 fun h' sb new => ?_
      have he : ∃ u, h'.get? D = some u := let ⟨o, _, _, _, ho, _⟩ := new; ⟨o, ho⟩
      exact fin (I10.write (e := D) (t' := s10.toks + 1) (by rw [hD10]; trivial) (.inl rfl) (fun b u hb hu => (sb.2 b hb).trans hu) he (setK_new new)) nx
/-- len of such a set -/
def rLenK (P : Program) (w : World) : List V → Hp → VK → Prop := fun xs H Q => ∃ a S n, xs = [.ref a] ∧ H a = some (SetK P w a S n) ∧ Q (.int n) H
theorem call_lenK : CallR X (.builtin "len") (rLenK X.prog X.w) := by
  intro pins s σ H xs us Q I r h
  obtain ⟨a, S, n, rfl, ha, q⟩ := h
  cases r with
  | cons rx rr =>
    cases rr
    cases rx
    obtain ⟨o, es, ep, t, ho, hex, hd, _, _, hb, hf, hn⟩ := setK_get I ha
    subst hn
    exact call_len_set ho hex hd hf (by unfold scanBound at hb; omega) ⟨.int es.size, H, I.tok _, ⟨_, rfl⟩, q⟩
end
/-- over a list that the block leaves as it is -/
theorem sc_list {P : Program} {w : World} {K : PySem.W.Frag} {a : Addr} {xs : List V} {g : TG} {tt : TT} {te : TE} {vs : List Nat} {σ : L2.St} {H1 : Hp} {D : Addr} {Qd : Hp → Prop} (Pv : Nat → Hp → Prop)
    (h0 : Pv 0 (upd H1 D (SetK P w D (fun _ => false) 0))) (hl : ∀ i H, Pv i H → SqL K H a xs) (hs : ∀ i x H, xs[i]? = some x → Pv i H → g x (wipe σ vs) H fun σ2 H2 => wipe σ2 vs = wipe σ vs ∧ tt σ2 H2 fun b H3 => if b = true then te σ2 H3 (Put P w D (Pv (i + 1))) else Pv (i + 1) H3)
    (hd : ∀ H, Pv xs.length H → Qd H) : ∃ W : Nat → Nat → Hp → Prop, (∃ m, W 0 m (upd H1 D (SetK P w D (fun _ => false) 0))) ∧ Turns P w D (Itl K a) g tt te vs σ Qd W := by
  refine ⟨fun i m H => m + i = xs.length ∧ Pv i H, ⟨xs.length, rfl, h0⟩, ?_⟩
  rintro i m H ⟨e, p⟩
  by_cases hlt : i < xs.length
  · refine .inr ⟨⟨xs, xs[i], hl i H p, by simp [hlt]⟩, Pv (i + 1), fun H' p' => ⟨m - 1, by omega, by omega, p'⟩, fun x H' y => ?_⟩
    obtain ⟨rfl, y⟩ := y
    exact hs i x _ (y xs (hl i _ p)) p
  · obtain rfl : i = xs.length := by omega
    exact .inl ⟨⟨xs, hl _ H p, Nat.le_refl _⟩, hd H p⟩
end SCK

/-! ### t[::-1], t a tuple -/
namespace BkT
open PySem PySem.Spec PyProof.Rows L2
section
variable {prog : Program} {w : World} {A : Around} {E : Value → Shared → Prop} {s : Shared}
theorem fm {α β : Type} {f g : α → Option β} : ∀ {l : List α}, (∀ x ∈ l, f x = g x) → l.filterMap f = l.filterMap g
  | [], _ => rfl
  | x :: r, h => by
    rw [List.filterMap_cons, List.filterMap_cons, h x List.mem_cons_self, fm fun y hy => h y (List.mem_cons_of_mem _ hy)]
theorem adj (n : Nat) : Builtin.Slice.sliceAdjust none none (-1) (n : Int) = ((n : Int) - 1, -1) := by
  unfold Builtin.Slice.sliceAdjust
  simp
theorem plc (n : Nat) : Builtin.Slice.slicePlaces ((n : Int) - 1) (-1) (-1) = n := by
  unfold Builtin.Slice.slicePlaces
  simp
  omega
theorem picked (xs : Array Value) : (List.range xs.size).filterMap (fun (k : Nat) => xs[(((xs.size : Int) - 1) + (k : Int) * (-1)).toNat]?) = xs.toList.reverse := by
  have h : (List.range xs.size).filterMap (fun (k : Nat) => xs[(((xs.size : Int) - 1) + (k : Int) * (-1)).toNat]?) = (List.range xs.size).filterMap ((fun j => xs[j]?) ∘ fun k => xs.size - 1 - k) := by
    refine fm fun k hk => ?_
    have := List.mem_range.mp hk
    show xs[(((xs.size : Int) - 1) + (k : Int) * (-1)).toNat]? = xs[xs.size - 1 - k]?
    congr 1
    omega
  rw [h, ← List.filterMap_map, show ((List.range xs.size).map fun k => xs.size - 1 - k) = (List.range xs.size).reverse from by
    refine List.ext_getElem (by simp) fun i h1 h2 => ?_
    simp, List.filterMap_reverse]
  congr 1
  have := pick_run xs 0 xs.size
  rw [List.filterMap_map, List.drop_zero, List.take_of_length_le (by simp)] at this
  rw [← this]
  refine fm fun k _ => ?_
  show xs[k]? = xs[0 + k]?
  rw [Nat.zero_add]
theorem got {t sl : Addr} {items : Array Value} {vk : Value} {Q : Value → Shared → Prop} (ht : IsTup s.heap t items) (hs : s.heap.IsSliceOf sl .none .none vk) (pk : IsPart vk (some (-1)))
    (h : Q (.ref s.heap.objs.size) { s with heap := s.heap.push { cls := .type "tuple", data := .seq items.toList.reverse.toArray } }) (hz : items.size ≤ sizeLine) : wpAny (model prog w) A (getItem (.ref t) (.ref sl)) Q E s := by
  obtain ⟨os, hos, hcs, hds⟩ := id hs
  have hTs : s.TypeIs (.ref sl) "slice" := ⟨os, hos, hcs⟩
  cases pk with
  | int i tk =>
  unfold getItem
  try with_reducible refine wpAny_holding ?_
  first | refine wpAny_bind (wpAny_pure ?_) | skip
  refine wpAny_bind (wpAny_sequenceKey ht.typeIs (by decide) ?_)
  refine wpAny_bind (wpAny_callSpecial?_slot (name := Str.ofString "__getitem__") ht.typeIs PyProof.Rows.slot_tuple_getitem
    (wpAny_call_entry PyProof.Rows.slot_tuple_getitem ht.typeIs entry_tuple_getitem ?_ (args_tuple_getitem _ _)))
  change wpAny _ _ (Builtin.Tuple.tupleItemsOf (.ref t) >>= _) _ _ s
  refine wpAny_bind (tupleItemsOf_ ht (wpAny_bind (wpAny_typeOf hTs ?_)))
  rw [if_pos (by decide)]
  refine wpAny_bind ?_
  unfold Builtin.Slice.sliceApplied Builtin.Slice.sliceFields
  refine wpAny_bind (wpAny_bind (wpAny_field hos hds (x := .none) rfl (wpAny_bind (wpAny_field hos hds (x := .none) rfl (wpAny_bind (wpAny_field hos hds (x := .int (-1) tk) rfl (wpAny_pure ?_)))))))
  refine wpAny_bind (slicePart_int ?_)
  change wpAny _ _ (if ((-1 : Int) == 0) = true then _ else _) _ _ s
  rw [if_neg (by decide)]
  refine wpAny_bind (slicePart_none (wpAny_bind (slicePart_none (wpAny_bind (wpAny_pure ?_)))))
  change wpAny _ _ (match Builtin.Slice.sliceAdjust none none (-1) (items.size : Int) with | (lo, hi) => pure (lo, (-1 : Int), Builtin.Slice.slicePlaces lo hi (-1))) _ _ s
  rw [adj]
  change wpAny _ _ (pure (((items.size : Int) - 1), (-1 : Int), Builtin.Slice.slicePlaces ((items.size : Int) - 1) (-1) (-1))) _ _ s
  rw [plc]
  refine wpAny_pure ?_
  change wpAny _ _ (if (((items.size : Int) - 1) == 0 && (-1 : Int) == 1 && items.size == items.size) = true then _ else _) _ _ s
  rw [if_neg (by simp)]
  rw [picked]
  refine wpAny_bind ?_
  exact wpAny_newObj_type (wpAny_pure ⟨_, rfl, wpAny_pure h⟩) (by change items.toList.reverse.toArray.size ≤ sizeLine; simp; exact hz)
end
section
variable {X : Cx} {e : Expr} {te : TE} {tk : TO} {pos p2 p4 p5 : Pos} {j : Nat}
def tBack (K : PySem.W.Frag) (te : TE) (tk : TO) : TE := fun σ H Q => te σ H fun x H1 => tk σ H1 fun o H2 => o = some (-1) ∧ ∃ a xs, x = .ref a ∧ SqT K H2 a xs ∧ ∀ p, H2 p = none → Q (.ref p) (L2.upd H2 p (.tup xs.reverse))
theorem pe_back (he : PE X e te) (hk : PO X (some (.UnaryOp .USub (.Constant (.int 1) j p4) p5)) tk) : PE X (.Subscript e (.Slice none none (some (.UnaryOp .USub (.Constant (.int 1) j p4) p5)) p2) pos) (tBack X.K te tk) := by
  refine ⟨fun pins s σ H Q I h => ?_⟩
  refine Subscript_ (L2.thn (he.run pins s σ H _ I h) fun v s1 y => ?_)
  obtain ⟨x, H1, I1, r1, q1⟩ := y
  refine wpAny_Slice ?_
  rw [evalPart_none]
  refine wpAny_pure (wpAny_pure (L2.thn (hk.run pins s1 σ H1 _ I1 q1) fun vk s2 z => ?_))
  obtain ⟨o, H2, I2, pk, rfl, a, xs, rfl, hx, q⟩ := z
  cases r1
  have I3 : Inv X pins σ H2 { s2 with heap := s2.heap.push { cls := .type "slice", data := .fields #[.none, .none, vk] } } := I2.kept (t' := s2.toks) fun b ob q => Heap.get?_push_of_some _ q
  obtain ⟨its, r, ht, hz⟩ := I3.tuple hx
  have hl : its.toArray.size = xs.length := by rw [List.size_toArray]; exact r.length.symm
  change wpAny (model X.prog X.w) X.A (subscriptTail e (.Slice none none (some (.UnaryOp .USub (.Constant (.int 1) j p4) p5)) p2) (.ref a) (.ref s2.heap.objs.size)) (EP X pins σ Q) X.xe { s2 with heap := s2.heap.push { cls := .type "slice", data := .fields #[.none, .none, vk] } }
  refine tail_any (ops := [.ref a, .ref s2.heap.objs.size]) ht.typeIs PyProof.Rows.slot_tuple_getitem.lookup (got ht (Heap.IsSliceOf.new ..) pk ?_ (by rw [hl]; exact hz)) (by with_unfolding_all rfl)
  refine ⟨.ref _, _, I3.laid (o := .tup xs.reverse) (t' := s2.toks) (fun b ob q => Heap.get?_push_of_some _ q) (Nat.le_refl _) ?_, rfl, q _ (I3.hok.fresh (Nat.le_refl _))⟩
  refine ⟨by rw [List.length_reverse]; exact hz, its.reverse, ?_, IsTup.new _ _⟩
  exact r.reverse
end
end BkT

/-! ### tuple * k; tuple(d); a, b, *c = t -/
namespace R22
open PySem PySem.Spec PyProof.Rows L2
def rRepA (K : PySem.W.Frag) : R2 := fun x y H Q => ∃ l k xs, x = .ref l ∧ y = .int k ∧ SqT K H l xs ∧ xs ≠ [] ∧ 1 ≤ k ∧ k ≤ 1000 ∧ xs.length ≤ 1000 ∧ ((k = 1 ∧ Q (.ref l) H) ∨ (1 < k ∧ ∀ p, H p = none → Q (.ref p) (L2.upd H p (.tup (List.replicate k.toNat xs).flatten))))
theorem mul1 (l : Addr) (o : Obj) (items : Array Value) (n : Nat) (hc : o.cls = .type "tuple") (hd : o.data = .seq items n) (u : Tok) :
    Meets (Builtin.«tuple.__mul__» ⟨[.ref l, .int 1 u], []⟩) (fun _ R s => s.heap.get? l = some o ∧ R (.ok (.ret (.ref l))) s) :=
  .of_wp fun prog w A R s hyp => by
    obtain ⟨hp, gg, dd, tt, oo⟩ := s
    obtain ⟨at1, hyp⟩ := hyp
    have ix := AutoSeq1.idx_int
    obtain ⟨cls, di, da, sl⟩ := o
    simp only at hc hd
    subst hc hd
    wp_walk using AutoSeq1.wpAny_loadPart' at1
    exact ⟨_, rfl, hyp⟩
section
variable {X : Cx}
theorem op_repA : OpR X (binaryOp .Mult) (rRepA X.K) := by
  intro pins s σ H x y v u Q I rx ry hyp
  obtain ⟨l, k, xs, e1, e2, hT, hne, b1, b2, hz, hyp⟩ := hyp
  rcases hyp with ⟨k1, q⟩ | ⟨k1, q⟩
  · subst e1 e2 k1
    cases rx
    obtain ⟨t, rfl⟩ := ry
    obtain ⟨its, rv, ⟨ob, at1, hc, n, hd⟩, _⟩ := I.tuple hT
    have at2 := at1
    have ty : s.TypeIs (.ref l) "tuple" := ⟨ob, at1, hc⟩
    obtain ⟨cls, di, da, sl⟩ := ob
    simp only at hc hd
    subst hc hd
    exact wpAny_binaryOp_repeat_ref (T := "tuple") (U := "int") (by decide) ty (fun s' => typeIs_int s' 1 t) noFill_tuple_mul F.fills_int_mul F.slot_int_rmul repeat_tuple F.slot_int_index.lookup
      (call_meets F.slot_int_rmul (typeIs_int s 1 t) F.entry_int_rmul (F.args_int_rmul_2 _ _) (int_rmul_tuple 1 t l its.toArray n di sl)
        ⟨at1, rfl, ty, call_meets F.slot_tuple_mul ty F.entry_tuple_mul (F.args_tuple_mul_2 _ _) (mul1 l _ _ _ rfl rfl t) ⟨at2, .ref l, H, I, rfl, q⟩⟩)
  · exact op_repT pins s σ H x y v u Q I rx ry ⟨l, k, xs, e1, e2, hT, hne, by omega, b2, hz, q⟩
end
/-! tuple(d) -/
section
variable {prog : Program} {w : World} {A : Around} {E : Value → Shared → Prop} {s : Shared} {T : String} {r d : Addr} {n : Nat} {P : Nat → Value → Prop} {OK : Heap → Prop}
theorem collected {Q : List Value → Shared → Prop} (src : PySem.W.KdlSrc prog w T r d n P OK) (hh : A.handled = none) (ok : OK s.heap) (small : n ≤ sizeLine)
    (k : ∀ (g : Heap) (tk : Nat) (acc : Array Value), (∀ b o, s.heap.get? b = some o → g.get? b = some o) → ItemsOf P acc n → Q acc.toList { s with heap := g, toks := tk }) :
    wpAny (model prog w) A (collect (.ref r)) Q E s := by
  obtain ⟨l1, l2⟩ := src.there _ ok
  unfold collect
  refine wpAny_bind (wpAny_runValue (codeAny_builtin F.entry_proto_collect ?_)); rw [Around.under_plainId F.plain_proto_collect _]
  change wpAny _ A.in1 (newList [] >>= fun x => again (.builtin "list.__iadd__" ⟨[x, .ref r], []⟩)) _ _ s
  refine wpAny_bind (wpAny_newObj_type (wpAny_pure ⟨plainId_quiet F.plain_list_iadd _, codeAny_builtin F.entry_list_iadd ?_⟩))
  rw [Around.under_plainId F.plain_list_iadd _]
  change wpAny _ A.in1 (Builtin.List.listExtendWith (.ref s.heap.objs.size) (.ref r) (.ref s.heap.objs.size)) _ _ _
  have old : ∀ b o, s.heap.get? b = some o → (s.heap.push { cls := .type "list", data := .seq ([] : List Value).toArray }).get? b = some o := fun b o q => Heap.get?_push_of_some _ q
  have fin : ∀ (g : Heap) (tk : Nat) (acc : Array Value) (c : Nat), (∀ b o, s.heap.get? b = some o → g.get? b = some o) → ItemsOf P acc n → g.get? s.heap.objs.size = some { cls := .type "list", dict := none, data := .seq acc c, slots := #[] } →
      wpAny (model prog w) A (do match (← load s.heap.objs.size).data with | Data.seq xs _ => pure xs.toList | _ => unsupported "internal:collect") Q E { s with heap := g, toks := tk } := fun g tk acc c kp ac at1 => wpAny_bind (wpAny_load at1 (wpAny_pure (k g tk acc kp ac)))
  refine wpAny_mono (PySem.W.kdl_extend (A := A) (R := fun f s2 => ∃ g tk acc c, f = .ok (.ret (.ref s.heap.objs.size)) ∧ s2 = { s with heap := g, toks := tk } ∧ (∀ b o, s.heap.get? b = some o → g.get? b = some o) ∧ ItemsOf P acc n ∧ g.get? s.heap.objs.size = some { cls := .type "list", dict := none, data := .seq acc c, slots := #[] })
    (s := { s with heap := s.heap.push { cls := .type "list", data := .seq ([] : List Value).toArray } }) src hh (src.keep _ _ ok fun b _ o q => old b o q) s.heap.objs.size (Nat.ne_of_gt l1) (Nat.ne_of_gt l2) _ 0 (Heap.get?_push_size _ rfl)
    (fun g tk acc c kp at1 ac => ⟨g, tk, acc, c, rfl, rfl, fun b o q => kp b o (Nat.ne_of_lt (Heap.lt_size q)) (old b o q), ac, at1⟩) small) (fun f s2 x => ?_) (fun e s2 x => ?_)
  · cases f with
    | done f =>
      obtain ⟨g, tk, acc, c, e1, rfl, kp, ac, at1⟩ := x
      cases e1
      exact fin g tk acc c kp ac at1
    | again c' =>
      refine ⟨x.1, codeAny_mono x.2 fun f' s3 y => ?_⟩
      obtain ⟨g, tk, acc, c, rfl, rfl, kp, ac, at1⟩ := y
      exact fin g tk acc c kp ac at1
  · obtain ⟨g, tk, acc, c, e1, _⟩ := x
    cases e1
theorem newed {Q : Value → Shared → Prop} (src : PySem.W.KdlSrc prog w T r d n P OK) (hh : A.handled = none) (ok : OK s.heap) (small : n ≤ sizeLine)
    (k : ∀ (g : Heap) (tk : Nat) (acc : Array Value), (∀ b o, s.heap.get? b = some o → g.get? b = some o) → ItemsOf P acc n → Q (.ref g.objs.size) { s with heap := g.push { cls := .type "tuple", data := .seq acc }, toks := tk }) :
    codeAny (model prog w) A (.call (.builtin "tuple.__new__") ⟨[.type "tuple", .ref r], []⟩) (wants Q E) s := by
  refine codeAny_of_tree ?_
  change wpAny _ A.in1 (do checkBuiltinCall "tuple.__new__" ⟨[.type "tuple", .ref r], []⟩; again (.builtin "tuple.__new__" ⟨[.type "tuple", .ref r], []⟩)) _ _ s
  refine wpAny_bind (wpAny_of_eq (F.newCall_tuple_1 _) (wpAny_pure ⟨plainId_quiet F.plain_tuple_new _, codeAny_builtin F.entry_tuple_new ?_⟩)); rw [Around.under_plainId F.plain_tuple_new _]
  have u1 := sub_tuple_self
  have u2 := init_tuple_lookup
  have u3 := madeHere_tuple
  have u4 : s.TypeIs (.ref r) T := src.type _ ok
  have u5 : A.in1.handled = none := hh
  have u6 := src.notTuple
  wp_walk using wpAny_typeOf u4, collected (A := A.in1) src u5 ok small
  intro g tk acc kp ac
  change wpAny _ _ (Builtin.Tuple.tupleExact acc.toList.toArray >>= fun x => ret x) _ _ _
  unfold Builtin.Tuple.tupleExact
  have ea : acc.toList.toArray = acc := by simp
  rw [ea]
  exact wpAny_bind (wpAny_newObj_type (wpAny_pure (k g tk acc kp ac)) (by change acc.size ≤ sizeLine; rw [ac.1]; exact small))
theorem told {Q : Value → Shared → Prop} (src : PySem.W.KdlSrc prog w T r d n P OK) (hh : A.handled = none) (ok : OK s.heap) (small : n ≤ sizeLine)
    (k : ∀ (g : Heap) (tk : Nat) (acc : Array Value), (∀ b o, s.heap.get? b = some o → g.get? b = some o) → ItemsOf P acc n → Q (.ref g.objs.size) { s with heap := g.push { cls := .type "tuple", data := .seq acc }, toks := tk }) :
    wpAny (model prog w) A (call (.type "tuple") [.ref r]) Q E s :=
  callType_codes (Q₁ := fun x s1 => s1.TypeIs x "tuple" ∧ Q x s1) F.called_tuple (F.typeCall_tuple_1 _) F.entry_object_init (newed (A := A.in1) src hh ok small fun g tk acc kp ac => ⟨⟨_, Heap.get?_push_size _ rfl, rfl⟩, k g tk acc kp ac⟩)
    fun x s1 y => ⟨y.1, F.args_object_init_2 x _, object_init_meets F.called_tuple.init.lookup F.called_tuple.made (by decide) prog w A.in1 _ s1 ⟨y.1, rfl, y.2⟩⟩
end
section
variable {X : Cx}
def rTupD : List V → Hp → VK → Prop := fun xs H Q => ∃ a kvs, xs = [.ref a] ∧ H a = some (.dK kvs) ∧ ∀ b, H b = none → Q (.ref b) (L2.upd H b (.tup (kvs.map fun z => kV z.1)))
theorem call_tuple_dict (hc : X.calm = true) : CallR X (.type "tuple") rTupD := by
  intro pins s σ H xs us Q I r hyp
  obtain ⟨a, kvs, e, hk, q⟩ := hyp
  subst e
  obtain ⟨u, eu, rx⟩ := vals1 r
  subst eu
  obtain rfl : u = Value.ref a := rx
  obtain ⟨small, lo, vs, rk, hd⟩ := (show ObjOk X.prog X.w H s.heap a (.dK kvs) from I.hok a _ hk)
  obtain ⟨ep, hat⟩ := hd.dictAt
  have ln : kvs.length = vs.length := Paired.length rk
  refine told (PySem.W.kdl_dict (knd := mixKind X.prog X.w) (kvs := vs) (ep := ep) lo) (I.ok.hd hc) hat (by rw [← ln]; exact small) fun g tk acc kp ac => ?_
  have I1 : Inv X pins σ H { s with heap := g, toks := tk } := I.kept kp
  refine ⟨.ref g.objs.size, L2.upd H g.objs.size (.tup (kvs.map fun z => kV z.1)), I1.laid (t' := tk) (fun b o q => Heap.get?_push_of_some _ q) (Nat.le_refl _) (show ObjOk X.prog X.w _ _ _ (.tup (kvs.map fun z => kV z.1)) from ⟨?_, acc.toList, ?_, ?_⟩), rfl, q _ (I1.hok.fresh (Nat.le_refl _))⟩
  · rw [List.length_map]
    exact small
  · have el : acc.toList.length = acc.size := by simp
    refine vals_of_at (by rw [List.length_map, el, ac.1, ln]) fun j x v h1 h2 => ?_
    obtain ⟨k, y, hky, hi⟩ := ac.2 j v (by rw [← Array.getElem?_toList]; exact h2)
    have e1 : (kvs.map fun z => kV z.1)[j]? = some (kV k) := by
      have := congrArg (fun l => (l[j]?).map kV) (KV.keys rk)
      simpa [List.getElem?_map, Option.map_map, Function.comp_def, hky] using this
    rw [e1] at h1
    cases h1
    exact keyIs_rel hi
  · rw [Array.toArray_toList]
    exact IsTup.new _ _
end
/-! a, .., *c = a tuple -/
theorem walk_from {prog : Program} {w : World} {A : Around} (hh : A.handled = none) (I ax : Addr) (hne : ax ≠ I) (items : Array Value) (k : Nat) (hk : k ≤ items.size) :
    Walks prog w A I [I, ax] [I] (items.size - k) (fun i v => items[k + i]? = some v) (fun i h => h.IsTupleIter I ax (k + i) ∧ h.IsTuple ax items) :=
  let W := Walks.tuple (prog := prog) (w := w) hh I ax hne items
  ⟨W.sub, fun i => W.frame (k + i), fun i s Q E hi st hQ => W.item (k + i) s Q E (by omega) st hQ,
    fun s Q E st hQ => W.done s Q E (by rw [show k + (items.size - k) = items.size by omega] at st; exact st) hQ, fun i => W.self (k + i)⟩
section
variable {prog : Program} {w : World} {A : Around} {E : Value → Shared → Prop} {s : Shared}
theorem items_star {t : Addr} {items : Array Value} {k : Nat} {Q : List Value → Shared → Prop} (hh : A.handled = none) (ht : IsTup s.heap t items) (hk : k ≤ items.size) (hz : items.size ≤ sizeLine)
    (hQ : ∀ (h' : Heap) (tk : Nat), (∀ b o, s.heap.get? b = some o → h'.get? b = some o) →
      Q (items.toList.take k ++ [.ref h'.objs.size]) { s with heap := h'.push { cls := .type "list", data := .seq (items.toList.drop k).toArray }, toks := tk }) :
    wpAny (model prog w) A (unpackItems (.ref t) (k + 1) (some k)) Q E s := by
  have hlt : t ≠ s.heap.objs.size := Nat.ne_of_lt ht.lt
  unfold unpackItems
  refine wpAny_bind ?_
  unfold notIterableAtAll
  refine wpAny_bind (wpAny_specialOf ht.typeIs slot_tuple_iter.lookup (wpAny_pure ?_))
  simp only [Bool.false_eq_true, if_false]
  refine wpAny_bind (wpAny_holding (iter_tuple ht ?_))
  refine wpAny_bind (wpAny_holding (draw_tuple hlt k 0 _ _ ⟨_, Heap.get?_push_size _ rfl, rfl, rfl⟩ (ht.push _) (by omega) fun g hit hs => ?_))
  rw [List.drop_zero, if_neg (by simp; omega)]
  have ht1 : IsTup g t items := (ht.push _).extBut hs.extBut hlt
  have l1 : s.heap.objs.size < g.objs.size := by obtain ⟨o, e, _⟩ := hit; exact Heap.lt_size e
  have l2 : t < g.objs.size := ht1.lt
  have hit1 : g.IsTupleIter s.heap.objs.size t (k + 0) := by rw [Nat.add_zero]; rw [Nat.zero_add] at hit; exact hit
  refine wpAny_bind (wpAny_holding (wpAny_collect_iter (T := "tuple_iterator") (.inr (.inr (.inr rfl))) (walk_from (A := A.in1) hh s.heap.objs.size t hlt items k hk).toS
    (fun _ _ st => let ⟨o, ho, hc, _⟩ := st.1; ⟨o, ho, hc⟩) ⟨hit1, ht1⟩ (fun b hb => ?_) (by simp) (fun s' acc hm ha => ?_) (by omega)))
  · simp only [List.mem_cons, List.not_mem_nil, or_false] at hb
    rcases hb with rfl | rfl
    · exact l1
    · exact l2
  · have ea : acc.toList = items.toList.drop k := by
      refine List.ext_getElem? fun j => ?_
      rw [List.getElem?_drop]
      by_cases hj : j < acc.size
      · have := ha.2 j acc[j] (by simp [hj])
        rw [Array.getElem?_toList, Array.getElem?_toList, this]
        simp [hj]
      · have h1 := ha.1
        rw [List.getElem?_eq_none (by simp; omega), List.getElem?_eq_none (by simp; omega)]
    rw [ea]
    have e0 : k + 1 - 1 - k = 0 := by omega
    simp only [e0, Nat.not_lt_zero, if_false, Nat.sub_zero]
    rw [List.take_of_length_le (Nat.le_refl _), List.drop_of_length_le (Nat.le_refl _)]
    refine wpAny_bind (wpAny_newObj_type (wpAny_pure ?_) (by change (items.toList.drop k).toArray.size ≤ sizeLine; simp; omega))
    obtain ⟨g1, gg, dd, tt, oo⟩ := s'
    obtain ⟨m1, m2, m3, m4, m5⟩ := hm
    simp only at m1 m2 m3 m4 m5 ⊢
    subst m2 m3 m4
    rw [List.append_nil]
    exact hQ g1 tt fun b o e => m1 b o (by simp; exact Nat.ne_of_lt (Heap.lt_size e)) (hs.extBut b o (Nat.ne_of_lt (Heap.lt_size e)) (Heap.get?_push_of_some _ e))
end
section
variable {X : Cx} {pos : Pos}
/-- (a, .., *c) = a tuple, k plain targets ahead of the last -/
def gStar (K : PySem.W.Frag) (k : Nat) (t : TGs) : TG := fun v σ H Q => ∃ a xs, v = .ref a ∧ SqT K H a xs ∧ k ≤ xs.length ∧ ∀ p, H p = none → t (xs.take k ++ [.ref p]) σ (L2.upd H p (.lst (xs.drop k))) Q
theorem pgs_star {e : Expr} {p : Pos} {t : TG} (h1 : PG X e t) (hs : (assignEach [.Starred e p] X.env).map (·.2) = [assign e X.env] := by rfl) : PGs X [.Starred e p] (gCons t gNil) := by
  refine ⟨fun pins s σ H vs us Q I r h => ?_⟩
  obtain ⟨v, vr, e1, h⟩ := h
  subst e1
  cases r with
  | cons r rr =>
    rw [hs]
    refine assignInOrder_cons (L2.thn (h1.run pins s σ H _ _ _ I r h) fun _ s1 y => ?_)
    obtain ⟨σ1, H1, I1, n1, q1⟩ := y
    subst n1
    cases rr
    exact assignInOrder_nil ⟨σ1, H1, I1, q1⟩
theorem pg_star {es : List Expr} {j k : Nat} {t : TGs} (hc : X.calm = true) (h : PGs X es t)
    (hn : (assignEach es X.env).length = k + 1 := by rfl) (hst : (assignEach es X.env).findIdx? (·.1) = some k := by rfl) : PG X (.Tuple es j pos) (gStar X.K k t) := by
  refine ⟨fun pins s σ H v u Q I r hw => ?_⟩
  obtain ⟨a, xs, e1, hq, hl, hw⟩ := hw
  subst e1
  cases r
  obtain ⟨its, rv, ht, hz⟩ := I.tuple hq
  rw [assign_Tuple]
  refine wpAny_bind (wpAny_standAt ?_)
  unfold unpack
  rw [hn, hst]
  refine wpAny_bind (wpAny_holding (items_star (I.ok.hd hc) ht (by have := rv.length; simp at *; omega) (by have := rv.length; simp at *; omega) fun h' tk kp => ?_))
  have I1 : Inv X pins σ H { s with heap := h', toks := tk } := I.kept kp
  have I2 := I1.laid (t' := tk) (h' := h'.push { cls := .type "list", data := .seq (its.drop k).toArray }) (fun b o q => Heap.get?_push_of_some _ q) (Nat.le_refl _) (show ObjOk X.prog X.w (L2.upd H h'.objs.size (.lst (xs.drop k))) _ h'.objs.size (.lst (xs.drop k)) from ⟨by rw [List.length_drop]; have := rv.length; simp at *; omega, its.drop k, _, rv.drop k, Heap.get?_push_size _ rfl⟩)
  refine h.run pins _ σ _ _ _ Q I2 ?_ (hw _ (I1.hok.fresh (Nat.le_refl _)))
  exact (rv.take k).append (.cons rfl .nil)
end
end R22

/-! ### cut, joined, repeated tuples -/
/-! what a cut, a joined, a repeated tuple tells, new or not -/
section
variable {K : PySem.W.Frag} {H : Hp}
theorem catQ {a b : Addr} {xs ys : List V} {Q : V → Hp → Prop} (ha : SqT K H a xs) (hb : SqT K H b ys) (q : ∀ c H', Same H H' → SqT K H' c (xs ++ ys) → Q (.ref c) H') :
    (xs = [] → Q (.ref b) H) ∧ (xs ≠ [] → ys = [] → Q (.ref a) H) ∧ (xs ≠ [] → ys ≠ [] → ∀ p, H p = none → Q (.ref p) (L2.upd H p (.tup (xs ++ ys)))) :=
  ⟨fun e => q b H (Same.refl _) (by rw [e]; exact hb), fun _ e => q a H (Same.refl _) (by rw [e, List.append_nil]; exact ha), fun _ _ p hp => q p _ (same_upd hp) (SqT.of upd_same)⟩
theorem slQ {a : Addr} {xs : List V} {lo hi : Option Int} {Q : V → Hp → Prop} (ha : SqT K H a xs) (q : ∀ c H', Same H H' → SqT K H' c (cutV xs lo hi) → Q (.ref c) H') :
    (HT.sIx xs.length 0 lo = 0 ∧ HT.sIx xs.length xs.length hi = xs.length → Q (.ref a) H) ∧ (¬ (HT.sIx xs.length 0 lo = 0 ∧ HT.sIx xs.length xs.length hi = xs.length) → ∀ p, H p = none → Q (.ref p) (L2.upd H p (.tup (cutV xs lo hi)))) :=
  ⟨fun e => q a H (Same.refl _) (by unfold cutV; rw [e.1, e.2, Nat.sub_zero, List.drop_zero, List.take_of_length_le (Nat.le_refl _)]; exact ha), fun _ p hp => q p _ (same_upd hp) (SqT.of upd_same)⟩
theorem repQ {a : Addr} {k : Int} {xs : List V} {Q : V → Hp → Prop} (ha : SqT K H a xs) (h1 : 1 ≤ k) (q : ∀ c H', Same H H' → SqT K H' c (List.replicate k.toNat xs).flatten → Q (.ref c) H') :
    (k = 1 ∧ Q (.ref a) H) ∨ (1 < k ∧ ∀ p, H p = none → Q (.ref p) (L2.upd H p (.tup (List.replicate k.toNat xs).flatten))) := by
  by_cases e : k = 1
  · subst e
    exact .inl ⟨rfl, q a H (Same.refl _) (by simpa using ha)⟩
  · exact .inr ⟨by omega, fun p hp => q p _ (same_upd hp) (SqT.of upd_same)⟩
variable {X : Cx}
def rCatQ (K : PySem.W.Frag) : R2 := fun x y H Q => ∃ a b xs ys, x = .ref a ∧ y = .ref b ∧ SqT K H a xs ∧ SqT K H b ys ∧ xs.length + ys.length ≤ sizeLine ∧ ∀ c H', Same H H' → SqT K H' c (xs ++ ys) → Q (.ref c) H'
theorem op_catQ : OpR X (binaryOp .Add) (rCatQ X.K) := fun pins s σ H x y v u Q I rx ry ⟨a, b, xs, ys, h1, h2, h3, h4, h5, q⟩ => op_catA pins s σ H x y v u Q I rx ry ⟨a, b, xs, ys, h1, h2, h3, h4, h5, catQ h3 h4 q⟩
def rSlQ (K : PySem.W.Frag) : V → Option Int → Option Int → Hp → VK → Prop := fun x lo hi H Q => ∃ a xs, x = .ref a ∧ SqT K H a xs ∧ ∀ c H', Same H H' → SqT K H' c (cutV xs lo hi) → Q (.ref c) H'
theorem sl_tupQ : SlR X (rSlQ X.K) := fun pins s σ H x v vl vu lo hi sl Q I rx hs pl pu ⟨a, xs, h1, h2, q⟩ => sl_tupA pins s σ H x v vl vu lo hi sl Q I rx hs pl pu ⟨a, xs, h1, h2, slQ h2 q⟩
def rRepQ (K : PySem.W.Frag) : R2 := fun x y H Q => ∃ l k xs, x = .ref l ∧ y = .int k ∧ SqT K H l xs ∧ xs ≠ [] ∧ 1 ≤ k ∧ k ≤ 1000 ∧ xs.length ≤ 1000 ∧ ∀ c H', Same H H' → SqT K H' c (List.replicate k.toNat xs).flatten → Q (.ref c) H'
theorem op_repQ : OpR X (binaryOp .Mult) (rRepQ X.K) := fun pins s σ H x y v u Q I rx ry ⟨a, k, xs, h1, h2, h3, h4, h5, h6, h7, q⟩ => R22.op_repA pins s σ H x y v u Q I rx ry ⟨a, k, xs, h1, h2, h3, h4, h5, h6, h7, repQ h3 h5 q⟩
end

/-! ### things of any kind -/
inductive Th where
  | non
  | bl (b : Bool)
  | int (i : Int)
  | str (x : Str)
  | tup (ts : List Th)
  | lst
  | dic
mutual
/-- the value v is such a thing; no tuple of it is longer than N -/
inductive TAt (N : Nat) (K : PySem.W.Frag) (H : Hp) : V → Th → Prop where
  | non : TAt N K H .non .non
  | bl (b : Bool) : TAt N K H (.bl b) (.bl b)
  | int (i : Int) : TAt N K H (.int i) (.int i)
  | str (x : Str) (h : x.length ≤ 100) (c : ∀ c ∈ x.cps.toList, c < 1114112) : TAt N K H (.str x) (.str x)
  | tup {a : Addr} {xs : List V} {ts : List Th} (h : SqT K H a xs) (l : xs.length ≤ N) (t : TAll N K H xs ts) : TAt N K H (.ref a) (.tup ts)
  | lst {a : Addr} {xs : List V} (h : H a = some (.lst xs)) : TAt N K H (.ref a) .lst
  | dic {a : Addr} {kvs : List (Key × V)} (h : H a = some (.dK kvs)) : TAt N K H (.ref a) .dic
inductive TAll (N : Nat) (K : PySem.W.Frag) (H : Hp) : List V → List Th → Prop where
  | nil : TAll N K H [] []
  | cons {v : V} {vs : List V} {t : Th} {ts : List Th} (h : TAt N K H v t) (r : TAll N K H vs ts) : TAll N K H (v :: vs) (t :: ts)
end
section
variable {K : PySem.W.Frag} {H H' : Hp} {N N' : Nat}
theorem TAll.len : ∀ {vs : List V} {ts : List Th}, TAll N K H vs ts → vs.length = ts.length
  | _, _, .nil => rfl
  | _, _, .cons _ r => by rw [List.length_cons, List.length_cons, r.len]
theorem TAll.get : ∀ {vs : List V} {ts : List Th} {i : Nat} {v : V}, TAll N K H vs ts → vs[i]? = some v → ∃ t, ts[i]? = some t ∧ TAt N K H v t
  | _, _, _, _, .nil, h => by simp at h
  | _, _, 0, _, .cons (t := t) x _, h => by
    have e := Option.some.inj h
    subst e
    exact ⟨t, rfl, x⟩
  | _, _, i + 1, _, .cons _ r, h => by
    obtain ⟨t, h1, h2⟩ := r.get (i := i) (by simpa using h)
    exact ⟨t, by simpa using h1, h2⟩
theorem TAll.mem {vs : List V} {ts : List Th} (a : TAll N K H vs ts) {v : V} (h : v ∈ vs) : ∃ t, TAt N K H v t := by
  obtain ⟨i, hi⟩ := List.mem_iff_getElem?.mp h
  obtain ⟨t, _, x⟩ := a.get hi
  exact ⟨t, x⟩
theorem TAll.of : ∀ {vs : List V}, (∀ v ∈ vs, ∃ t, TAt N K H v t) → ∃ ts, TAll N K H vs ts
  | [], _ => ⟨[], .nil⟩
  | v :: vs, h => by
    obtain ⟨t, x⟩ := h v List.mem_cons_self
    obtain ⟨ts, r⟩ := TAll.of (vs := vs) fun y hy => h y (List.mem_cons_of_mem _ hy)
    exact ⟨t :: ts, .cons x r⟩
/-- a tuple of things is a thing -/
theorem TAt.mk {a : Addr} {xs : List V} (h : SqT K H a xs) (l : xs.length ≤ N) (all : ∀ v ∈ xs, ∃ t, TAt N K H v t) : ∃ t, TAt N K H (.ref a) t := by
  obtain ⟨ts, r⟩ := TAll.of all
  exact ⟨.tup ts, .tup h l r⟩
mutual
theorem TAt.keep (hN : N ≤ N') (e1 : ∀ a xs, SqT K H a xs → SqT K H' a xs) (e2 : ∀ a xs, H a = some (.lst xs) → ∃ ys, H' a = some (.lst ys)) (e3 : ∀ a kvs, H a = some (.dK kvs) → H' a = some (.dK kvs)) : ∀ {v : V} {t : Th}, TAt N K H v t → TAt N' K H' v t
  | _, _, .non => .non
  | _, _, .bl b => .bl b
  | _, _, .int i => .int i
  | _, _, .str x h c => .str x h c
  | _, _, .tup h l t => .tup (e1 _ _ h) (Nat.le_trans l hN) (TAll.keep hN e1 e2 e3 t)
  | _, _, .lst h => .lst (e2 _ _ h).choose_spec
  | _, _, .dic h => .dic (e3 _ _ h)
theorem TAll.keep (hN : N ≤ N') (e1 : ∀ a xs, SqT K H a xs → SqT K H' a xs) (e2 : ∀ a xs, H a = some (.lst xs) → ∃ ys, H' a = some (.lst ys)) (e3 : ∀ a kvs, H a = some (.dK kvs) → H' a = some (.dK kvs)) : ∀ {vs : List V} {ts : List Th}, TAll N K H vs ts → TAll N' K H' vs ts
  | _, _, .nil => .nil
  | _, _, .cons x r => .cons (TAt.keep hN e1 e2 e3 x) (TAll.keep hN e1 e2 e3 r)
end
theorem TAt.more (hN : N ≤ N') {v : V} {t : Th} (x : TAt N K H v t) : TAt N' K H v t := x.keep hN (fun _ _ h => h) (fun _ xs h => ⟨xs, h⟩) (fun _ _ h => h)
theorem TAt.same (s : Same H H') {v : V} {t : Th} (x : TAt N K H v t) : TAt N K H' v t := x.keep (Nat.le_refl _) (fun _ _ h => ssqt s h) (fun _ xs h => ⟨xs, s _ _ h⟩) (fun _ _ h => s _ _ h)
/-- draws leave a thing as it is -/
theorem TAt.kp {A : PA} {c c' : Nat} (P : Pool H A c) (P' : Pool H' A c') (k : Kp A H H') {v : V} {t : Th} (x : TAt N K H v t) : TAt N K H' v t := by
  refine x.keep (Nat.le_refl _) (fun _ _ h => (P.imm k).sq h) (fun a xs h => ?_) (fun a kvs h => k _ _ h (P.offo h fun _ q => by cases q))
  obtain ⟨gs, ss, st, ct, p1, p2, p3, _⟩ := P'.ex
  by_cases h1 : a = A.p
  · exact ⟨_, by rw [h1]; exact p1⟩
  · by_cases h2 : a = A.g
    · exact ⟨_, by rw [h2]; exact p2⟩
    · by_cases h3 : a = A.s
      · exact ⟨_, by rw [h3]; exact p3⟩
      · exact ⟨xs, k _ _ h ⟨h1, h2, h3⟩⟩
end
/-! isinstance, len of a thing -/
def tyn : Th → String
  | .non => "NoneType"
  | .bl _ => "bool"
  | .int _ => "int"
  | .str _ => "str"
  | .tup _ => "tuple"
  | .lst => "list"
  | .dic => "dict"
def isTh (nm : String) (t : Th) : Bool := tyn t == nm || (nm == "int" && tyn t == "bool")
def tyL : List String := ["tuple", "int", "bool", "str"]
theorem kit_th {K : PySem.W.Frag} {t : Th} {nm : String} (h : nm ∈ tyL) : PySem.W.kitOne K (.type (tyn t)) (.type nm) = some (isTh nm t) := by
  have key : ∀ a ∈ ["NoneType", "bool", "int", "str", "tuple", "list", "dict"], ∀ b ∈ tyL, kitB a b = some (a == b || (b == "int" && a == "bool")) := by decide +kernel
  have ht : tyn t ∈ ["NoneType", "bool", "int", "str", "tuple", "list", "dict"] := by cases t <;> simp [tyn]
  exact kit_ty (key _ ht _ h)
theorem ty_th {K : PySem.W.Frag} {H : Hp} {N : Nat} {v : V} {t : Th} (x : TAt N K H v t) : TyX K H v (.type (tyn t)) := by
  cases x with
  | non => exact .base .non
  | bl b => exact .base (.bl b)
  | int i => exact .base (.int i)
  | str x _ _ => exact .base (.str x)
  | tup h _ _ => exact ty_sqt h
  | lst h => exact .base (.lst h)
  | dic h => exact .base (.dK h)
section
variable {X : Cx}
def rIsT (K : PySem.W.Frag) : List V → Hp → VK → Prop := fun xs H Q => ∃ (v : V) (t : Th) (N : Nat) (nm : String), xs = [v, .ty nm] ∧ TAt N K H v t ∧ nm ∈ tyL ∧ Q (.bl (isTh nm t)) H
theorem call_isT : CallR X (.builtin "isinstance") (rIsT X.K) := fun pins s σ H xs us Q I r ⟨v, t, _, nm, e, x, h, q⟩ =>
  call_isi pins s σ H xs us Q I r ⟨v, .ty nm, .type (tyn t), .type nm, isTh nm t, e, .ty nm, ty_th x, kit_th h, q⟩
theorem isTK (K : PySem.W.Frag) (h : X.K = K := by rfl) : CallR X (.builtin "isinstance") (rIsT K) := by subst h; exact call_isT
def rLenX (K : PySem.W.Frag) : List V → Hp → VK → Prop := fun xs H Q => (∃ z, xs = [.str z] ∧ z.length ≤ sizeLine ∧ Q (.int z.length) H) ∨ (∃ p ys, xs = [.ref p] ∧ (SqL K H p ys ∨ SqT K H p ys) ∧ Q (.int ys.length) H)
theorem call_lenX : CallR X (.builtin "len") (rLenX X.K) := fun pins s σ H xs us Q I r h => h.elim (fun h => call_len_str pins s σ H xs us Q I r h) (fun h => call_len_seq pins s σ H xs us Q I r h)
theorem lenXK (K : PySem.W.Frag) (h : X.K = K := by rfl) : CallR X (.builtin "len") (rLenX K) := by subst h; exact call_lenX
end
/-! what a thing is, by the law -/
def rowB : Th → Int → Int → Bool
  | .tup ts, lo, hi => decide (lo ≤ ts.length) && decide ((ts.length : Int) ≤ hi)
  | _, _, _ => false
def nameB : Th → Bool
  | .str x => decide (1 ≤ x.length) && decide (x.length ≤ 8) && decide (x ∉ wordsL) && x.cps.toList.all fun c => decide (c ∈ lettersS.cps.toList)
  | _ => false

/-! ### own errors -/
structure XCls (K : PySem.W.Frag) (mg : Str → Option Value) (nm : Str) (C : Addr) : Prop where
  g : mg nm = some (.ref C)
  k : PySem.W.keepIn K (.ref C) = true
  b : PySem.W.subIn K (.ref C) (.type "BaseException") = some true
  t : PySem.W.typeIn K (.ref C) = some (.type "type")
  h : PySem.W.hasDictIn K C = true
theorem XCls.r {K : PySem.W.Frag} {mg : Str → Option Value} {nm : Str} {C : Addr} (_ : XCls K mg nm C) : RelV (.ref C) (.ref C) := rfl
/-- the error that is raised -/
structure XRai (K : PySem.W.Frag) (C : Addr) : Prop where
  x : PySem.W.excIn K C [.type "ValueError", .type "Exception", .type "BaseException", .type "object"] "ValueError.__new__" = true
  E : ExcC K C
  s : PySem.W.subIn K (.ref C) (.ref C) = some true
  v : PySem.W.subIn K (.ref C) (.type "ValueError") = some true
theorem XCls.exm {K : PySem.W.Frag} {mg : Str → Option Value} {nm : Str} {C D : Addr} {b : Bool} (c : XCls K mg nm C) (h : PySem.W.subIn K (.ref D) (.ref C) = some b) : PySem.W.exmOne K (.ref D) (.ref C) = some b :=
  PySem.W.exm_ref c.b c.h c.t h
theorem XCls.kit {K : PySem.W.Frag} {mg : Str → Option Value} {nm : Str} {C D : Addr} {b : Bool} (c : XCls K mg nm C) (r : XRai K D) (h : PySem.W.subIn K (.ref D) (.ref C) = some b) : PySem.W.kitOne K (.ref D) (.ref C) = some b := by
  have e := c.exm h
  unfold PySem.W.exmOne at e
  rw [if_pos (by rw [c.b] <;> rfl)] at e
  unfold PySem.W.kitOne
  by_cases q : (Value.ref D == Value.ref C) = true
  · rw [if_pos q]
    have q' : D = C := Value.ref.inj (eq_of_beq q)
    rw [q'] at h r
    rw [r.s] at h
    exact h
  · rw [if_neg q]
    exact e
theorem XRai.kit {K : PySem.W.Frag} {D : Addr} (r : XRai K D) : PySem.W.kitOne K (.ref D) (.type "ValueError") = some true := by
  unfold PySem.W.kitOne PySem.W.kitCls
  rw [if_neg (by intro q; exact absurd (eq_of_beq q) (by intro z; cases z))]
  change (if PySem.W.kitMeta "ValueError" = true then _ else _) = _
  rw [if_pos (by decide +kernel)]
  exact r.v
theorem zc_of {cls : Value} {d : Option Addr} {D : Addr} {oe : Obj} (hz : Zc cls d oe) (hp : cls = .ref D ∧ d = none) : Zc (.ref D) none oe := by
  obtain ⟨rfl, rfl⟩ := hp
  exact hz
theorem pss_when {X : Cx} {sts : List Stmt} {p : Prop} {t : TS} (h : p → PSs X sts t) : PSs X sts (fun D σ H => p ∧ t D σ H) := ⟨fun pins s σ H D I q => (h q.1).run pins s σ H D I q.2⟩
/-- a def that may raise, as callers see it -/
structure CalX (P : Program) (w : World) (K : PySem.W.Frag) (mg : Str → Option Value) (base : Heap) (k : Nat) (x : Str) (ps : List Str) (sp : Sp) where
  f : Addr
  fd : FuncData
  G : FnOk P w K mg base (L2.CX P w) k f fd ps sp
  g : mg x = some (.ref f)
  kp : PySem.W.keepIn K (.ref f) = true
  b : Binds K fd ps []
/-- the raised error, the base of all, two others -/
structure XSet (K : PySem.W.Frag) (mg : Str → Option Value) (nR nA nB : Str) where
  R : Addr
  T : Addr
  A : Addr
  B : Addr
  xR : XCls K mg nR R
  xT : XCls K mg "TreeError" T
  xA : XCls K mg nA A
  xB : XCls K mg nB B
  r : XRai K R
  sT : PySem.W.subIn K (.ref R) (.ref T) = some true
  sA : PySem.W.subIn K (.ref R) (.ref A) = some false
  sB : PySem.W.subIn K (.ref R) (.ref B) = some false

/-! ### odd things, bent things -/
abbrev s_law_odd : Stmt := topS 46
theorem sc_law_odd : FnScope ["_law_pool_here", "_law_some"] ["_law_pool_here"] (defScope s_law_odd) := ⟨rfl, rfl, rfl, by decide +kernel, rfl, by decide +kernel, by decide +kernel⟩
abbrev s_law_bent : Stmt := topS 47
theorem sc_law_bent : FnScope ["_law_pool_here", "_law_thing", "_law_deep", "_law_at", "_law_way", "_law_turn"] ["_law_pool_here", "_law_thing", "_law_deep"] (defScope s_law_bent) := ⟨rfl, rfl, rfl, by decide +kernel, rfl, by decide +kernel, by decide +kernel⟩
section
variable {P : Program} {w : World} {K : PySem.W.Frag} {mg : Str → Option Value} {base : Heap}
def spOdd (K : PySem.W.Frag) : Sp := fun vs H Q _ => ∃ (A : PA) (c : Nat), vs = [.ref A.p] ∧ Pool H A c ∧ c < 900000 ∧ ∀ (H' : Hp) (v : V) (t : Th), Pool H' A (c + 1) → Kp A H H' → TAt 2 K H' v t → Q v H'
theorem ok_odd {f : Addr} {fd : FuncData} (F : Fun K "_law_odd" "_law_odd" s_law_odd f fd) (c_law_draw : Cal P w K mg base 1 "_law_draw" ["_law_pool_here", "_law_many"] spDraw) : FnOk P w K mg base CX0 2 f fd ["_law_pool_here"] (spOdd K) := by
  refine F.ok sc_law_odd (fun vs H Q E h => ?_) (fun cdv A outer s H vs Q E hr h => ?_)
  · obtain ⟨A, c, rfl, _⟩ := h
    rfl
  · obtain ⟨PL, c, rfl, P0, hc, q⟩ := h
    refine ⟨_, (pss_cons (ps_set (i := 1) sc_law_odd.nd rfl (.inl rfl) (pe_lst (pa_cons pe_non (pa_cons pe_bl (pa_cons pe_bl (pa_cons pe_str (pa_cons pe_str (pa_cons (pe_un un_neg pe_int) (pa_cons pe_int (pa_cons (pe_op op_add (pe_op op_pow pe_int pe_int) pe_int) (pa_cons (pe_tup pa_nil) (pa_cons (pe_lst pa_nil) (pa_cons (pe_tup (pa_cons pe_int pa_nil)) (pa_cons (pe_lst (pa_cons pe_int pa_nil)) (pa_cons pe_dnewK (pa_cons pe_str (pa_cons pe_str (pa_cons pe_str pa_nil))))))))))))))))))
      (pss_cons (ps_set (i := 1) sc_law_odd.nd rfl (.inl rfl) (pe_op op_cat (pv 1) (pe_lst (pa_cons (pe_tup (pa_cons pe_str pa_nil)) (pa_cons pe_int (pa_cons pe_int (pa_cons pe_str (pa_cons (pe_tup (pa_cons pe_int (pa_cons pe_int pa_nil))) (pa_cons (pe_disp (pps_cons pe_str pe_int pps_nil) (by rfl) (by rfl) (fun z => by cases z) (by decide)) (pa_cons pe_str pa_nil))))))))))
      (pss_one (ps_ret (pe_ix ix_list (pv 1) (pe_call c_law_draw.G hr (by rfl) c_law_draw.g c_law_draw.kp c_law_draw.b .nil pass0 (pa_cons (pv 0) (pa_cons pe_int pa_nil))) (fun _ _ => rfl)))))), ?_⟩
    refine ⟨_, rfl, _, _, rfl, rfl, ⟨by decide, by decide, by decide⟩, _, _, rfl, rfl, by show 0 ≤ sizeLine; decide, fun e1 g1 => ⟨by show 0 ≤ sizeLine; decide, fun e2 g2 => ⟨by show 1 ≤ sizeLine; decide, fun e3 g3 => ⟨by show 1 ≤ sizeLine; decide, fun e4 g4 => fun e5 g5 => ⟨by show 16 ≤ sizeLine; decide, fun L hL => ?_⟩⟩⟩⟩⟩
    refine ⟨_, rfl, by show 1 ≤ sizeLine; decide, fun e6 g6 => ⟨by show 2 ≤ sizeLine; decide, fun e7 g7 => fun e8 g8 => ⟨upd_same, [(Sum.inr "a", .int 1)], rfl, by show 1 ≤ 15; decide, by show 7 ≤ sizeLine; decide, fun M hM => ?_⟩⟩⟩
    have m1 := same_upd (o := .tup []) g1
    have m2 := same_upd (o := .lst []) g2
    have m3 := same_upd (o := .tup [.int 0]) g3
    have m4 := same_upd (o := .lst [.int 0]) g4
    have m5 := same_upd (o := .dK []) g5
    have mL := same_upd (o := .lst [.non, .bl true, .bl false, .str "a", .str "", .int (-1), .int 40, .int (10 ^ 21 + 3), .ref e1, .ref e2, .ref e3, .ref e4, .ref e5, .str "Aa", .str "no", .str "abcdefghi"]) hL
    have m6 := same_upd (o := .tup [.str "a"]) g6
    have m7 := same_upd (o := .tup [.int 0, .int 0]) g7
    have m8 := smut (o := .dK [(Sum.inr "a", .int 1)]) (same_upd (o := .dK []) g8) g8
    have mM := same_upd (o := .lst [.ref e6, .int 0, .int 1, .str "b c", .ref e7, .ref e8, .str "z"]) hM
    have hL1 := (((m6.trans m7).trans m8).trans mM) _ _ upd_same
    refine ⟨L, M, _, _, rfl, rfl, hL1, upd_same, by show 23 ≤ sizeLine; decide, fun so hso => ?_⟩
    have ms := same_upd (o := .lst ([.non, .bl true, .bl false, .str "a", .str "", .int (-1), .int 40, .int (10 ^ 21 + 3), .ref e1, .ref e2, .ref e3, .ref e4, .ref e5, .str "Aa", .str "no", .str "abcdefghi"] ++ [.ref e6, .int 0, .int 1, .str "b c", .ref e7, .ref e8, .str "z"])) hso
    have t8 := mM.trans ms
    have t7 := m8.trans t8
    have t6 := m7.trans t7
    have tL := m6.trans t6
    have t5 := mL.trans tL
    have t4 := m5.trans t5
    have t3 := m4.trans t4
    have t2 := m3.trans t3
    have t1 := m2.trans t2
    have t0 := m1.trans t1
    have f1 := t1 _ _ upd_same
    have f2 := t2 _ _ upd_same
    have f3 := t3 _ _ upd_same
    have f4 := t4 _ _ upd_same
    have f5 := t5 _ _ upd_same
    have f6 := t6 _ _ upd_same
    have f7 := t7 _ _ upd_same
    have f8 := t8 _ _ upd_same
    have fs : ∀ Hm : Hp, upd Hm so (.lst ([.non, .bl true, .bl false, .str "a", .str "", .int (-1), .int 40, .int (10 ^ 21 + 3), .ref e1, .ref e2, .ref e3, .ref e4, .ref e5, .str "Aa", .str "no", .str "abcdefghi"] ++ [.ref e6, .int 0, .int 1, .str "b c", .ref e7, .ref e8, .str "z"])) so = some (.lst ([.non, .bl true, .bl false, .str "a", .str "", .int (-1), .int 40, .int (10 ^ 21 + 3), .ref e1, .ref e2, .ref e3, .ref e4, .ref e5, .str "Aa", .str "no", .str "abcdefghi"] ++ [.ref e6, .int 0, .int 1, .str "b c", .ref e7, .ref e8, .str "z"])) := fun _ => upd_same
    have ofs := (P0.same ((((((((((m1.trans m2).trans m3).trans m4).trans m5).trans mL).trans m6).trans m7).trans m8).trans mM))).off hso
    have one : ∀ (a : Addr) (Hx : Hp), SqT K Hx a [.int 0] → ∃ t, TAt 2 K Hx (.ref a) t := fun a Hx h => TAt.mk h (by decide) fun v hv => by
      rw [List.mem_singleton.mp hv]
      exact ⟨_, .int 0⟩
    refine ⟨_, rfl, _, rfl, PL, c, 23, rfl, P0.same t0, by omega, by decide, by decide, fun H1 r r0 r1 P1 K1 => ?_⟩
    have all : ∀ v ∈ ([.non, .bl true, .bl false, .str "a", .str "", .int (-1), .int 40, .int (10 ^ 21 + 3), .ref e1, .ref e2, .ref e3, .ref e4, .ref e5, .str "Aa", .str "no", .str "abcdefghi"] ++ [.ref e6, .int 0, .int 1, .str "b c", .ref e7, .ref e8, .str "z"] : List V), ∃ t, TAt 2 K H1 v t := by
      have up : ∀ {v : V} {t : Th}, TAt 2 K _ v t → ∃ t, TAt 2 K H1 v t := fun {v t} x => ⟨t, x.kp (P0.same t0) P1 K1⟩
      have up2 : ∀ {v : V}, (∃ t, TAt 2 K _ v t) → ∃ t, TAt 2 K H1 v t := fun {v} ⟨t, x⟩ => ⟨t, x.kp (P0.same t0) P1 K1⟩
      refine List.forall_mem_append.mpr ⟨?_, ?_⟩
      · refine List.forall_mem_cons.mpr ⟨⟨_, .non⟩, List.forall_mem_cons.mpr ⟨⟨_, .bl _⟩, List.forall_mem_cons.mpr ⟨⟨_, .bl _⟩, List.forall_mem_cons.mpr ⟨⟨_, .str _ (by decide +kernel) (by decide +kernel)⟩, List.forall_mem_cons.mpr ⟨⟨_, .str _ (by decide +kernel) (by decide +kernel)⟩, List.forall_mem_cons.mpr ⟨⟨_, .int _⟩, List.forall_mem_cons.mpr ⟨⟨_, .int _⟩, List.forall_mem_cons.mpr ⟨⟨_, .int _⟩, ?_⟩⟩⟩⟩⟩⟩⟩⟩
        refine List.forall_mem_cons.mpr ⟨up2 (TAt.mk (SqT.of f1) (by decide) fun v hv => absurd hv List.not_mem_nil), List.forall_mem_cons.mpr ⟨up (.lst f2), List.forall_mem_cons.mpr ⟨up2 (one _ _ (SqT.of f3)), List.forall_mem_cons.mpr ⟨up (.lst f4), List.forall_mem_cons.mpr ⟨up (.dic f5), ?_⟩⟩⟩⟩⟩
        exact List.forall_mem_cons.mpr ⟨⟨_, .str _ (by decide +kernel) (by decide +kernel)⟩, List.forall_mem_cons.mpr ⟨⟨_, .str _ (by decide +kernel) (by decide +kernel)⟩, List.forall_mem_cons.mpr ⟨⟨_, .str _ (by decide +kernel) (by decide +kernel)⟩, List.forall_mem_nil _⟩⟩⟩
      · refine List.forall_mem_cons.mpr ⟨up2 (TAt.mk (SqT.of f6) (by decide) fun v hv => ?_), List.forall_mem_cons.mpr ⟨⟨_, .int _⟩, List.forall_mem_cons.mpr ⟨⟨_, .int _⟩, List.forall_mem_cons.mpr ⟨⟨_, .str _ (by decide +kernel) (by decide +kernel)⟩, List.forall_mem_cons.mpr ⟨up2 (TAt.mk (SqT.of f7) (by decide) fun v hv => ?_), List.forall_mem_cons.mpr ⟨up (.dic f8), List.forall_mem_cons.mpr ⟨⟨_, .str _ (by decide +kernel) (by decide +kernel)⟩, List.forall_mem_nil _⟩⟩⟩⟩⟩⟩⟩
        · rw [List.mem_singleton.mp hv]
          exact ⟨_, .str _ (by decide +kernel) (by decide +kernel)⟩
        · have : v = .int 0 := by
            rcases List.mem_cons.mp hv with e | hv
            · exact e
            · exact List.mem_singleton.mp hv
          rw [this]
          exact ⟨_, .int 0⟩
    obtain ⟨j, rfl⟩ : ∃ j : Nat, r = (j : Int) := ⟨r.toNat, by omega⟩
    have hj : j < ([.non, .bl true, .bl false, .str "a", .str "", .int (-1), .int 40, .int (10 ^ 21 + 3), .ref e1, .ref e2, .ref e3, .ref e4, .ref e5, .str "Aa", .str "no", .str "abcdefghi"] ++ [.ref e6, .int 0, .int 1, .str "b c", .ref e7, .ref e8, .str "z"] : List V).length := by
      show j < 23
      omega
    obtain ⟨t, ht⟩ := all _ (List.getElem_mem hj)
    exact ⟨so, _, _, _, rfl, rfl, SqL.of (K1 _ _ (fs _) ofs), atI_nat (List.getElem?_eq_getElem hj), q _ _ t P1 ((skp t0).trans K1) ht⟩
theorem tup_or {N : Nat} {H : Hp} {v : V} {t : Th} (x : TAt N K H v t) : (∃ a xs ts, v = .ref a ∧ t = .tup ts ∧ SqT K H a xs ∧ xs.length ≤ N ∧ TAll N K H xs ts) ∨ isTh "tuple" t = false := by
  cases x with
  | tup h l r => exact .inl ⟨_, _, _, rfl, rfl, h, l, r⟩
  | _ => exact .inr (by first | rfl | decide | simp [isTh, tyn])
theorem int_or {N : Nat} {H : Hp} {v : V} {t : Th} (x : TAt N K H v t) : (∃ i, v = .int i ∧ t = .int i) ∨ (isTh "int" t = false ∨ isTh "bool" t = true) := by
  cases x with
  | int i => exact .inl ⟨_, rfl, rfl⟩
  | bl b => exact .inr (.inr (by simp [isTh, tyn]))
  | _ => exact .inr (.inl (by simp [isTh, tyn]))
/-- bending goes no deeper than d (0: it is never asked) -/
def spB (K : PySem.W.Frag) : Nat → Sp
  | 0 => fun _ _ _ _ => False
  | d + 1 => fun vs H Q _ => ∃ (A : PA) (c N : Nat) (v : V) (t : Th) (e : Int), vs = [.ref A.p, v, .int e] ∧ Pool H A c ∧ c + 4 * (d + 1) < 800000 ∧ 2 ≤ N ∧ N ≤ 1000 ∧ TAt N K H v t ∧ 0 ≤ e ∧ e ≤ d ∧ d ≤ 10 ∧
    ∀ (H' : Hp) (v' : V) (t' : Th), Pool H' A (c + 4 * (d + 1)) → Kp A H H' → TAt (N + 1) K H' v' t' → Q v' H'
theorem cutV_to (xs : List V) (m : Nat) : cutV xs none (some (m : Int)) = xs.take m := by
  unfold cutV
  rw [HT.sIx_nat, HT.sIx_none, Nat.sub_zero, List.drop_zero, Nat.min_def]
  split
  · rfl
  · rw [List.take_of_length_le (Nat.le_refl _), List.take_of_length_le (by omega)]
theorem cutV_on (xs : List V) (m : Nat) (h : m ≤ xs.length) : cutV xs (some (m : Int)) none = xs.drop m := by
  unfold cutV
  rw [HT.sIx_nat, HT.sIx_none, Nat.min_eq_left h, List.take_of_length_le (by rw [List.length_drop]; exact Nat.le_refl _)]
theorem cut_mem {xs : List V} {lo hi : Option Int} {x : V} (h : x ∈ cutV xs lo hi) : x ∈ xs := List.mem_of_mem_drop (List.mem_of_mem_take h)
theorem ok_bent1 {f : Addr} {fd : FuncData} (F : Fun K "_law_bent" "_law_bent" s_law_bent f fd) (T : Bi mg) (c_law_draw : Cal P w K mg base 1 "_law_draw" ["_law_pool_here", "_law_many"] spDraw) (c_law_odd : Cal P w K mg base 2 "_law_odd" ["_law_pool_here"] (spOdd K))
    {k d : Nat} (c_law_bent : Cal P w K mg base k "_law_bent" ["_law_pool_here", "_law_thing", "_law_deep"] (spB K d)) (hk : 2 ≤ k) : FnOk P w K mg base CX0 (k + 1) f fd ["_law_pool_here", "_law_thing", "_law_deep"] (spB K (d + 1)) := by
  refine F.ok sc_law_bent (fun vs H Q E h => ?_) (fun cdv A outer s H vs Q E hr h => ?_)
  · obtain ⟨A, c, N, v, t, e, rfl, _⟩ := h
    rfl
  · obtain ⟨PL, c, N, v, t, e, rfl, P0, hc, n1, n2, x0, d0, d1, d2, q⟩ := h
    refine ⟨_, (Evl.pss_cut (ps_if (PW.pt (pw_and (pt_val (pe_callB call_isT (by rfl) T.isinstance (by decide +kernel) (pa_cons (pv 1) (pa_cons (pe_bltn (v := .ty "tuple") (u := .type "tuple") (by rfl) T.tuple (by decide +kernel) rfl) pa_nil)))) (pw_and (pt_cmpR op_gt (pe_callB call_lenX (by rfl) T.len PySem.boot_len (pa_cons (pv 1) pa_nil)) pe_int (nomark _)) (pw_and (pt_cmpR op_gt (pv 2) pe_int (nomark _)) (pw_and1 (pt_cmpR op_gt (pe_call c_law_draw.G (hr.mono (by omega)) (by rfl) c_law_draw.g c_law_draw.kp c_law_draw.b .nil pass0 (pa_cons (pv 0) (pa_cons pe_int pa_nil))) pe_int (nomark _)))))))
        (pss_cons (ps_set (i := 3) sc_law_bent.nd rfl (.inl rfl) (pe_call c_law_draw.G (hr.mono (by omega)) (by rfl) c_law_draw.g c_law_draw.kp c_law_draw.b .nil pass0 (pa_cons (pv 0) (pa_cons (pe_callB call_lenX (by rfl) T.len PySem.boot_len (pa_cons (pv 1) pa_nil)) pa_nil))))
        (pss_one (ps_ret (pe_op op_catQ (pe_op op_catQ (pe_slice sl_tupQ (pv 1) po_none (po_some (pv 3))) (pe_tup (pa_cons (pe_call c_law_bent.G hr (by rfl) c_law_bent.g c_law_bent.kp c_law_bent.b .nil pass0 (pa_cons (pv 0) (pa_cons (pe_ix ix_tup (pv 1) (pv 3) (fun _ _ => rfl)) (pa_cons (pe_op op_sub (pv 2) pe_int) pa_nil)))) pa_nil))) (pe_slice sl_tupQ (pv 1) (po_some (pe_op op_add (pv 3) pe_int)) po_none)))))
        pss_nil)
      (pss_cons (ps_set (i := 4) sc_law_bent.nd rfl (.inl rfl) (pe_call c_law_draw.G (hr.mono (by omega)) (by rfl) c_law_draw.g c_law_draw.kp c_law_draw.b .nil pass0 (pa_cons (pv 0) (pa_cons pe_int pa_nil))))
      (Evl.pss_cut (ps_if (PW.pt (pw_and (pt_val (pe_callB call_isT (by rfl) T.isinstance (by decide +kernel) (pa_cons (pv 1) (pa_cons (pe_bltn (v := .ty "tuple") (u := .type "tuple") (by rfl) T.tuple (by decide +kernel) rfl) pa_nil)))) (pw_and1 (pt_cmpR op_gt (pv 4) pe_int (nomark _)))))
        (pss_cons (ps_set (i := 5) sc_law_bent.nd rfl (.inl rfl) (pe_call c_law_draw.G (hr.mono (by omega)) (by rfl) c_law_draw.g c_law_draw.kp c_law_draw.b .nil pass0 (pa_cons (pv 0) (pa_cons pe_int pa_nil))))
        (pss_cons (ps_if (pt_cmpR op_eq (pv 5) pe_int (nomark _))
          (pss_one (ps_ret (pe_callTy call_list_of (by rfl) T.list (by decide +kernel) (pa_cons (pv 1) pa_nil))))
          pss_nil)
        (pss_cons (ps_if (pt_cmpR op_eq (pv 5) pe_int (nomark _))
          (pss_one (ps_ret (pe_op op_catQ (pv 1) (pe_tup (pa_cons (pe_call c_law_odd.G (hr.mono (by omega)) (by rfl) c_law_odd.g c_law_odd.kp c_law_odd.b .nil pass0 (pa_cons (pv 0) pa_nil)) pa_nil)))))
          pss_nil)
        (pss_one (ps_ret (pe_ix ix_list (pe_lst (pa_cons (pe_slice sl_tupQ (pv 1) po_none (po_some (pe_un un_neg pe_int))) (pa_cons (BkT.pe_back (pv 1) (po_some (pe_un un_neg pe_int))) (pa_cons (pe_op op_catQ (pv 1) (pe_slice sl_tupQ (pv 1) (po_some (pe_un un_neg pe_int)) po_none)) (pa_cons (pe_slice sl_tupQ (pv 1) (po_some pe_int) po_none) pa_nil))))) (pe_op op_sub (pv 5) pe_int) (fun _ _ => rfl)))))))
        pss_nil)
      (Evl.pss_cut (ps_if (PW.pt (pw_and (pt_val (pe_callB call_isT (by rfl) T.isinstance (by decide +kernel) (pa_cons (pv 1) (pa_cons (pe_bltn (v := .ty "int") (u := .type "int") (by rfl) T.int (by decide +kernel) rfl) pa_nil)))) (pw_and (pt_not (pt_val (pe_callB call_isT (by rfl) T.isinstance (by decide +kernel) (pa_cons (pv 1) (pa_cons (pe_bltn (v := .ty "bool") (u := .type "bool") (by rfl) T.bool (by decide +kernel) rfl) pa_nil))))) (pw_and1 (pt_cmpR op_gt (pv 4) pe_int (nomark _))))))
        (pss_one (ps_ret (pe_op op_add (pv 1) (pe_ix ix_list (pe_lst (pa_cons pe_int (pa_cons (pe_un un_neg pe_int) (pa_cons pe_int (pa_cons (pe_op op_sub pe_int (pv 1)) pa_nil))))) (pe_call c_law_draw.G (hr.mono (by omega)) (by rfl) c_law_draw.g c_law_draw.kp c_law_draw.b .nil pass0 (pa_cons (pv 0) (pa_cons pe_int pa_nil))) (fun _ _ => rfl)))))
        pss_nil)
      (pss_one (ps_ret (pe_call c_law_odd.G (hr.mono (by omega)) (by rfl) c_law_odd.g c_law_odd.kp c_law_odd.b .nil pass0 (pa_cons (pv 0) pa_nil)))))))), ?_⟩
    refine ⟨fun σ H' => σ = [some (.ref PL.p), some v, some (.int e), none, none, none] ∧ Pool H' PL (c + 1) ∧ Kp PL H H' ∧ TAt N K H' v t, ?_, ?_⟩
    · refine ⟨_, rfl, v, t, N, "tuple", rfl, x0, by simp [tyL], _, rfl, ?_⟩
      rcases tup_or x0 with ⟨a, xs, ts, rfl, rfl, hx, hl, hall⟩ | ht
      · rw [show isTh "tuple" (.tup ts) = true by simp [isTh, tyn]]
        refine iteT ⟨_, rfl, .inr ⟨a, xs, rfl, .inr hx, _, _, rfl, rfl, _, rfl, ite2 (fun e1 => ?_) (fun e1 => iteF ?_)⟩⟩
        · refine ⟨_, rfl, _, _, rfl, rfl, _, rfl, ite2 (fun e2 => ?_) (fun e2 => iteF ?_)⟩
          · refine ⟨_, rfl, PL, c, 6, rfl, P0, by omega, by decide, by decide, fun H1 r r0 r1 P1 K1 => ⟨_, _, rfl, rfl, _, rfl, ite2 (fun e3 => ?_) (fun e3 => ?_)⟩⟩
            · have x1 := x0.kp P0 P1 K1
              have hx1 := (P0.imm K1).sq hx
              have len0 : 0 < xs.length := by
                have := of_decide_eq_true e1
                omega
              refine ⟨_, rfl, _, rfl, .inr ⟨a, xs, rfl, .inr hx1, PL, _, xs.length, rfl, P1, by omega, by omega, by omega, fun H2 j j0 j1 P2 K2 => ?_⟩⟩
              have hx2 := (P1.imm K2).sq hx1
              have x2 := x1.kp P1 P2 K2
              obtain ⟨j, rfl⟩ : ∃ i : Nat, j = (i : Int) := ⟨j.toNat, by omega⟩
              have hj : j < xs.length := by omega
              have de : 0 < e := of_decide_eq_true e2
              obtain ⟨d', rfl⟩ : ∃ d', d = d' + 1 := ⟨d - 1, by omega⟩
              have all2 : ∀ y ∈ xs, ∃ t, TAt N K H2 y t := fun y hy => by
                obtain ⟨t, xt⟩ := hall.mem hy
                exact ⟨t, (xt.kp P0 P1 K1).kp P1 P2 K2⟩
              refine ⟨_, rfl, _, rfl, _, rfl, a, _, rfl, hx2, fun b1 H3 s3 hb1 => ?_⟩
              rw [cutV_to] at hb1
              have P3 := P2.same s3
              obtain ⟨tj, xj⟩ := all2 xs[j] (List.getElem_mem hj)
              refine ⟨_, rfl, _, rfl, _, rfl, a, _, _, xs[j], rfl, rfl, ssqt s3 hx2, at_of rfl (List.getElem?_eq_getElem hj), _, rfl, _, _, rfl, rfl, PL, _, N, xs[j], tj, e - 1, rfl, P3, by omega, n1, n2, xj.same s3, by omega, by omega, by omega, fun H4 v' t' P4 K4 x4 => ?_⟩
              refine ⟨by show 1 ≤ sizeLine; decide, fun p hp => ?_⟩
              have sp := same_upd (o := .tup [v']) hp
              have hx4 := ssqt sp ((P3.imm K4).sq (ssqt s3 hx2))
              refine ⟨b1, p, _, _, rfl, rfl, ssqt sp ((P3.imm K4).sq hb1), SqT.of upd_same, szOk (by rw [List.length_take]; show min j xs.length + 1 ≤ _; omega), fun g H5 s5 hg => ?_⟩
              refine ⟨_, rfl, _, rfl, _, _, rfl, rfl, _, rfl, a, _, rfl, ssqt s5 hx4, fun b2 H6 s6 hb2 => ?_⟩
              rw [show ((j : Int) + 1) = ((j + 1 : Nat) : Int) by omega, cutV_on _ _ (by omega)] at hb2
              refine ⟨g, b2, _, _, rfl, rfl, ssqt s6 hg, hb2, szOk (by rw [List.length_append, List.length_take, List.length_drop]; show min j xs.length + 1 + (xs.length - (j + 1)) ≤ _; omega), fun z H7 s7 hz => ?_⟩
              have s47 := ((sp.trans s5).trans s6).trans s7
              obtain ⟨tz, xz⟩ : ∃ t, TAt (N + 1) K H7 (.ref z) t := TAt.mk hz (by rw [List.length_append, List.length_append, List.length_take, List.length_drop]; show min j xs.length + 1 + (xs.length - (j + 1)) ≤ _; omega) fun y hy => by
                have old : y ∈ xs → ∃ t, TAt (N + 1) K H7 y t := fun hy => by
                  obtain ⟨t, xt⟩ := all2 y hy
                  exact ⟨t, (((xt.same s3).kp P3 P4 K4).same s47).more (by omega)⟩
                rcases List.mem_append.mp hy with hy | hy
                · rcases List.mem_append.mp hy with hy | hy
                  · exact old (List.mem_of_mem_take hy)
                  · rw [List.mem_singleton.mp hy]
                    exact ⟨t', x4.same s47⟩
                · exact old (List.mem_of_mem_drop hy)
              exact q _ _ tz ((P4.same s47).mono (by omega)) ((((K1.trans K2).trans (skp s3)).trans K4).trans (skp s47)) xz
            · exact ⟨rfl, P1, K1, x0.kp P0 P1 K1⟩
          · exact ⟨rfl, P0.mono (by omega), Kp.refl _, x0⟩
        · exact ⟨rfl, P0.mono (by omega), Kp.refl _, x0⟩
      · rw [ht]
        exact iteF (iteF ⟨rfl, P0.mono (by omega), Kp.refl _, x0⟩)
    rintro σ H1 ⟨rfl, P1, K1, x1⟩
    refine ⟨_, rfl, PL, _, 3, rfl, P1, by omega, by decide, by decide, fun H2 wy _ _ P2 K2 => ?_⟩
    have x2 := x1.kp P1 P2 K2
    have K02 := K1.trans K2
    refine ⟨fun σ H' => σ = [some (.ref PL.p), some v, some (.int e), none, some (.int wy), none] ∧ H' = H2, ?_, ?_⟩
    · refine ⟨_, rfl, v, t, N, "tuple", rfl, x2, by simp [tyL], _, rfl, ?_⟩
      rcases tup_or x2 with ⟨a, xs, ts, rfl, rfl, hx, hl, hall⟩ | ht
      · rw [show isTh "tuple" (.tup ts) = true by simp [isTh, tyn]]
        refine iteT ⟨_, rfl, _, _, rfl, rfl, _, rfl, ite2 (fun e1 => ?_) (fun e1 => ⟨rfl, rfl⟩)⟩
        refine ⟨_, rfl, PL, _, 6, rfl, P2, by omega, by decide, by decide, fun H3 tn t0 t1 P3 K3 => ?_⟩
        have hx3 := (P2.imm K3).sq hx
        have K03 := K02.trans K3
        have all3 : ∀ y ∈ xs, ∃ t, TAt N K H3 y t := fun y hy => by
          obtain ⟨t, xt⟩ := hall.mem hy
          exact ⟨t, xt.kp P2 P3 K3⟩
        have old : ∀ {H' : Hp}, Same H3 H' → ∀ y ∈ xs, ∃ t, TAt (N + 1) K H' y t := fun sm y hy => by
          obtain ⟨t, xt⟩ := all3 y hy
          exact ⟨t, (xt.same sm).more (by omega)⟩
        refine ⟨_, rfl, rfl, _, rfl, ?_⟩
        rw [dec_int]
        refine ite2 (fun e2 => ⟨_, rfl, a, xs, rfl, .inr hx3, fun l hl' => ?_⟩) (fun e2 => ⟨_, rfl, rfl, _, rfl, ?_⟩)
        · exact q _ _ .lst ((P3.same (same_upd hl')).mono (by omega)) (K03.trans (skp (same_upd hl'))) (.lst upd_same)
        rw [dec_int]
        refine ite2 (fun e3 => ⟨_, rfl, _, rfl, PL, _, rfl, P3, by omega, fun H4 v' t' P4 K4 x4 => ⟨by show 1 ≤ sizeLine; decide, fun p hp => ?_⟩⟩) (fun e3 => ?_)
        · have sp := same_upd (o := .tup [v']) hp
          refine ⟨a, p, _, _, rfl, rfl, ssqt sp ((P3.imm K4).sq hx3), SqT.of upd_same, szOk (by show xs.length + 1 ≤ _; omega), fun z H5 s5 hz => ?_⟩
          have s45 := sp.trans s5
          obtain ⟨tz, xz⟩ : ∃ t, TAt (N + 1) K H5 (.ref z) t := TAt.mk hz (by rw [List.length_append]; show xs.length + 1 ≤ _; omega) fun y hy => by
            rcases List.mem_append.mp hy with hy | hy
            · obtain ⟨t, xt⟩ := all3 y hy
              exact ⟨t, ((xt.kp P3 P4 K4).same s45).more (by omega)⟩
            · rw [List.mem_singleton.mp hy]
              exact ⟨t', (x4.same s45).more (by omega)⟩
          exact q _ _ tz ((P4.same s45).mono (by omega)) ((K03.trans K4).trans (skp s45)) xz
        have n0 : tn ≠ 0 := fun z => e2 (decide_eq_true z)
        have n1' : tn ≠ 1 := fun z => e3 (decide_eq_true z)
        refine ⟨_, rfl, _, rfl, _, rfl, a, _, rfl, hx3, fun b1 H4 s4 hb1 => ?_⟩
        refine ⟨_, rfl, _, rfl, _, rfl, rfl, a, xs, rfl, ssqt s4 hx3, fun b2 hb2 => ?_⟩
        have s5 := same_upd (o := .tup xs.reverse) hb2
        refine ⟨_, rfl, _, rfl, _, rfl, _, rfl, a, _, rfl, ssqt (s4.trans s5) hx3, fun b3 H6 s6 hb3 => ?_⟩
        have l3 : (cutV xs (some (-1)) none).length ≤ 1 := by
          unfold cutV
          rw [List.length_take, List.length_drop]
          show min (xs.length - (if (-1 : Int) < 0 then (-1 + (xs.length : Int)).toNat else min (Int.toNat (-1)) xs.length)) (xs.length - (if (-1 : Int) < 0 then (-1 + (xs.length : Int)).toNat else min (Int.toNat (-1)) xs.length)) ≤ 1
          rw [if_pos (by decide)]
          omega
        refine ⟨a, b3, _, _, rfl, rfl, ssqt ((s4.trans s5).trans s6) hx3, hb3, szOk (by have := cutV_length xs (some (-1)) none; omega), fun b4 H7 s7 hb4 => ?_⟩
        refine ⟨_, rfl, 1, rfl, a, _, rfl, ssqt (((s4.trans s5).trans s6).trans s7) hx3, fun b5 H8 s8 hb5 => ⟨by show 4 ≤ sizeLine; decide, fun L hL => ?_⟩⟩
        have sL := same_upd (o := .lst [.ref b1, .ref b2, .ref b4, .ref b5]) hL
        have s88 := s8.trans sL
        have s78 := s7.trans s88
        have s68 := s6.trans s78
        have s58 := s5.trans s68
        have s48 := s4.trans s58
        have P8 := P3.same s48
        have y1 : ∃ t, TAt (N + 1) K _ (.ref b1) t := TAt.mk (ssqt s58 hb1) (by have := cutV_length xs none (some (-1)); omega) fun y hy => old s48 y (cut_mem hy)
        have y2 : ∃ t, TAt (N + 1) K _ (.ref b2) t := TAt.mk (ssqt s68 (SqT.of upd_same)) (by rw [List.length_reverse]; omega) fun y hy => old s48 y (List.mem_reverse.mp hy)
        have y4 : ∃ t, TAt (N + 1) K _ (.ref b4) t := TAt.mk (ssqt s88 hb4) (by rw [List.length_append]; omega) fun y hy => old s48 y (by
          rcases List.mem_append.mp hy with hy | hy
          · exact hy
          · exact cut_mem hy)
        have y5 : ∃ t, TAt (N + 1) K _ (.ref b5) t := TAt.mk (ssqt sL hb5) (by have := cutV_length xs (some 1) none; omega) fun y hy => old s48 y (cut_mem hy)
        obtain ⟨j, b, tb, hb, ej, xb⟩ : ∃ (j : Nat) (b : Addr) (tb : Th), [V.ref b1, .ref b2, .ref b4, .ref b5][j]? = some (.ref b) ∧ tn - 2 = (j : Int) ∧ TAt (N + 1) K (L2.upd H8 L (.lst [.ref b1, .ref b2, .ref b4, .ref b5])) (.ref b) tb := by
          have : tn = 2 ∨ tn = 3 ∨ tn = 4 ∨ tn = 5 := by omega
          rcases this with rfl | rfl | rfl | rfl
          · exact ⟨0, b1, y1.choose, rfl, rfl, y1.choose_spec⟩
          · exact ⟨1, b2, y2.choose, rfl, rfl, y2.choose_spec⟩
          · exact ⟨2, b4, y4.choose, rfl, rfl, y4.choose_spec⟩
          · exact ⟨3, b5, y5.choose, rfl, rfl, y5.choose_spec⟩
        exact ⟨_, rfl, _, _, rfl, rfl, L, _, _, .ref b, rfl, rfl, SqL.of upd_same, at_of ej hb, q _ _ tb (P8.mono (by omega)) (K03.trans (skp s48)) xb⟩
      · rw [ht]
        exact iteF (iteF ⟨rfl, rfl⟩)
    rintro σ H' ⟨rfl, rfl⟩
    refine ⟨fun σ H'' => σ = [some (.ref PL.p), some v, some (.int e), none, some (.int wy), none] ∧ H'' = H', ?_, ?_⟩
    · refine ⟨_, rfl, v, t, N, "int", rfl, x2, by simp [tyL], _, rfl, ?_⟩
      rcases int_or x2 with ⟨i, rfl, rfl⟩ | hn
      · rw [show isTh "int" (.int i) = true by simp [isTh, tyn]]
        refine iteT ⟨_, rfl, _, .int i, N, "bool", rfl, x2, by simp [tyL], _, rfl, ?_⟩
        rw [show isTh "bool" (.int i) = false by simp [isTh, tyn]]
        refine iteT ⟨_, rfl, _, _, rfl, rfl, _, rfl, ite2 (fun e1 => ?_) (fun e1 => ⟨rfl, rfl⟩)⟩
        refine ⟨_, rfl, _, rfl, _, rfl, _, _, rfl, rfl, by show 4 ≤ sizeLine; decide, fun L hL => ⟨_, rfl, PL, _, 4, rfl, P2.same (same_upd hL), by omega, by decide, by decide, fun H4 r r0 r1 P4 K4 => ?_⟩⟩
        obtain ⟨y, hy⟩ : ∃ y, atI [V.int 1, .int (-1), .int 2, .int (0 - i)] r = some (.int y) := by
          have : r = 0 ∨ r = 1 ∨ r = 2 ∨ r = 3 := by omega
          rcases this with rfl | rfl | rfl | rfl
          · exact ⟨1, rfl⟩
          · exact ⟨-1, rfl⟩
          · exact ⟨2, rfl⟩
          · exact ⟨0 - i, rfl⟩
        exact ⟨L, _, _, .int y, rfl, rfl, SqL.of (K4 _ _ upd_same (P2.off hL)), hy, _, _, rfl, rfl, q _ _ (.int _) (P4.mono (by omega)) ((K02.trans (skp (same_upd hL))).trans K4) (.int _)⟩
      · cases hi : isTh "int" t with
        | false => exact iteF (iteF ⟨rfl, rfl⟩)
        | true =>
          have hb : isTh "bool" t = true := by
            rcases hn with h | h
            · rw [h] at hi
              cases hi
            · exact h
          refine iteT ⟨_, rfl, v, t, N, "bool", rfl, x2, by simp [tyL], _, rfl, ?_⟩
          rw [hb]
          exact iteF (iteF ⟨rfl, rfl⟩)
    rintro σ H'' ⟨rfl, rfl⟩
    exact ⟨_, rfl, PL, _, rfl, P2, by omega, fun H3 v' t' P3 K3 x3 => q _ _ t' (P3.mono (by omega)) (K02.trans K3) (x3.more (by omega))⟩
theorem ok_bent {f : Addr} {fd : FuncData} (F : Fun K "_law_bent" "_law_bent" s_law_bent f fd) (T : Bi mg) (c_law_draw : Cal P w K mg base 1 "_law_draw" ["_law_pool_here", "_law_many"] spDraw) (c_law_odd : Cal P w K mg base 2 "_law_odd" ["_law_pool_here"] (spOdd K))
    (g : mg "_law_bent" = some (.ref f)) (kp : PySem.W.keepIn K (.ref f) = true) (b : Binds K fd ["_law_pool_here", "_law_thing", "_law_deep"] []) : ∀ d : Nat, FnOk P w K mg base CX0 (2 + d) f fd ["_law_pool_here", "_law_thing", "_law_deep"] (spB K d)
  | 0 => ⟨fun _ _ _ _ h => h.elim, fun _ _ _ _ _ _ _ _ _ _ _ _ _ h => h.elim⟩
  | d + 1 => ok_bent1 F T c_law_draw c_law_odd ⟨f, fd, ok_bent F T c_law_draw c_law_odd g kp b d, g, kp, b⟩ (Nat.le_add_right 2 d)
end

/-! ### rows and names among things of any kind -/
abbrev sis_whole : Stmt := topS 23
theorem scis_whole : FnScope ["thing"] ["thing"] (defScope sis_whole) := ⟨rfl, rfl, rfl, by decide +kernel, rfl, by decide +kernel, by decide +kernel⟩
abbrev sis_number : Stmt := topS 24
theorem scis_number : FnScope ["thing", "low", "high"] ["thing", "low", "high"] (defScope sis_number) := ⟨rfl, rfl, rfl, by decide +kernel, rfl, by decide +kernel, by decide +kernel⟩
abbrev s_law_number : Stmt := topS 48
theorem sc_law_number : FnScope ["_law_thing", "_law_low", "_law_high"] ["_law_thing", "_law_low", "_law_high"] (defScope s_law_number) := ⟨rfl, rfl, rfl, by decide +kernel, rfl, by decide +kernel, by decide +kernel⟩
abbrev sis_row : Stmt := topS 25
theorem scis_row : FnScope ["thing", "least", "most"] ["thing", "least", "most"] (defScope sis_row) := ⟨rfl, rfl, rfl, by decide +kernel, rfl, by decide +kernel, by decide +kernel⟩
abbrev sis_name : Stmt := topS 26
theorem scis_name : FnScope ["thing", "sign"] ["thing"] (defScope sis_name) := ⟨rfl, rfl, rfl, by decide +kernel, rfl, by decide +kernel, by decide +kernel⟩
abbrev s_law_tuple : Stmt := topS 49
theorem sc_law_tuple : FnScope ["_law_thing", "_law_least", "_law_most"] ["_law_thing", "_law_least", "_law_most"] (defScope s_law_tuple) := ⟨rfl, rfl, rfl, by decide +kernel, rfl, by decide +kernel, by decide +kernel⟩
abbrev s_law_good_name : Stmt := topS 50
theorem sc_law_good_name : FnScope ["_law_thing", "_law_words", "_law_sign"] ["_law_thing"] (defScope s_law_good_name) := ⟨rfl, rfl, rfl, by decide +kernel, rfl, by decide +kernel, by decide +kernel⟩
def numB : Th → Int → Int → Bool
  | .int i, lo, hi => decide (lo ≤ i) && decide (i < hi)
  | _, _, _ => false
def wholeB : Th → Bool
  | .int _ => true
  | _ => false
section
variable {P : Program} {w : World} {K : PySem.W.Frag} {mg : Str → Option Value} {base : Heap}
theorem str_or {N : Nat} {H : Hp} {v : V} {t : Th} (x : TAt N K H v t) : (∃ z, v = .str z ∧ t = .str z ∧ z.length ≤ 100 ∧ ∀ c ∈ z.cps.toList, c < 1114112) ∨ (isTh "str" t = false ∧ nameB t = false) := by
  cases x with
  | str z h c => exact .inl ⟨z, rfl, rfl, h, c⟩
  | _ => exact .inr ⟨by simp [isTh, tyn], rfl⟩
theorem row_no {t : Th} {lo hi : Int} (h : isTh "tuple" t = false) : rowB t lo hi = false := by
  cases t <;> first | rfl | (simp [isTh, tyn] at h)
def spRowT (K : PySem.W.Frag) : Sp := fun vs H Q _ => ∃ (v : V) (t : Th) (N : Nat) (lo hi : Int), vs = [v, .int lo, .int hi] ∧ TAt N K H v t ∧ Q (.bl (rowB t lo hi)) H
theorem ok_rowT {f : Addr} {fd : FuncData} (F : Fun K "is_row" "is_row" sis_row f fd) (T : Bi mg) : FnOk P w K mg base CX0 1 f fd ["thing", "least", "most"] (spRowT K) := by
  refine F.ok scis_row (fun vs H Q E h => ?_) (fun cdv A outer s H vs Q E hr h => ?_)
  · obtain ⟨v, t, N, lo, hi, rfl, _⟩ := h
    rfl
  · obtain ⟨v, t, N, lo, hi, rfl, x, q⟩ := h
    refine ⟨_, (pss_one (ps_ret (pe_and (pe_callB call_isT (by rfl) T.isinstance (by decide +kernel) (pa_cons (pv 0) (pa_cons (pe_bltn (v := .ty "tuple") (u := .type "tuple") (by rfl) T.tuple (by decide +kernel) rfl) pa_nil))) (pe_one (pe_chain op_le op_le (pv 1) (pe_callB call_lenX (by rfl) T.len PySem.boot_len (pa_cons (pv 0) pa_nil)) (pv 2)))))), ?_⟩
    refine ⟨_, rfl, v, t, N, "tuple", rfl, x, by simp [tyL], _, rfl, ?_⟩
    rcases tup_or x with ⟨a, xs, ts, rfl, rfl, hx, hl, hall⟩ | ht
    · rw [show isTh "tuple" (.tup ts) = true by simp [isTh, tyn]]
      have q : Q (.bl (decide (lo ≤ ts.length) && decide ((ts.length : Int) ≤ hi))) H := q
      rw [← hall.len] at q
      refine iteT ⟨_, rfl, _, rfl, .inr ⟨a, xs, rfl, .inr hx, lo, _, rfl, rfl, _, rfl, ite2 (fun e => ?_) (fun e => ?_)⟩⟩
      · refine ⟨_, rfl, _, hi, rfl, rfl, ?_⟩
        rw [e, Bool.true_and] at q
        exact q
      · have e' : decide (lo ≤ (xs.length : Int)) = false := by simpa using e
        rw [e', Bool.false_and] at q
        exact q
    · rw [ht]
      rw [row_no ht] at q
      exact iteF q
theorem ok_ltupT {f : Addr} {fd : FuncData} (F : Fun K "_law_tuple" "_law_tuple" s_law_tuple f fd) (T : Bi mg) : FnOk P w K mg base CX0 1 f fd ["_law_thing", "_law_least", "_law_most"] (spRowT K) := by
  refine F.ok sc_law_tuple (fun vs H Q E h => ?_) (fun cdv A outer s H vs Q E hr h => ?_)
  · obtain ⟨v, t, N, lo, hi, rfl, _⟩ := h
    rfl
  · obtain ⟨v, t, N, lo, hi, rfl, x, q⟩ := h
    refine ⟨_, (pss_one (ps_ret (pe_and (pe_callB call_isT (by rfl) T.isinstance (by decide +kernel) (pa_cons (pv 0) (pa_cons (pe_bltn (v := .ty "tuple") (u := .type "tuple") (by rfl) T.tuple (by decide +kernel) rfl) pa_nil))) (pe_one (pe_chain op_le op_le (pv 1) (pe_callB call_lenX (by rfl) T.len PySem.boot_len (pa_cons (pv 0) pa_nil)) (pv 2)))))), ?_⟩
    refine ⟨_, rfl, v, t, N, "tuple", rfl, x, by simp [tyL], _, rfl, ?_⟩
    rcases tup_or x with ⟨a, xs, ts, rfl, rfl, hx, hl, hall⟩ | ht
    · rw [show isTh "tuple" (.tup ts) = true by simp [isTh, tyn]]
      have q : Q (.bl (decide (lo ≤ ts.length) && decide ((ts.length : Int) ≤ hi))) H := q
      rw [← hall.len] at q
      refine iteT ⟨_, rfl, _, rfl, .inr ⟨a, xs, rfl, .inr hx, lo, _, rfl, rfl, _, rfl, ite2 (fun e => ?_) (fun e => ?_)⟩⟩
      · refine ⟨_, rfl, _, hi, rfl, rfl, ?_⟩
        rw [e, Bool.true_and] at q
        exact q
      · have e' : decide (lo ≤ (xs.length : Int)) = false := by simpa using e
        rw [e', Bool.false_and] at q
        exact q
    · rw [ht]
      rw [row_no ht] at q
      exact iteF q
theorem name_eq (z : Str) : nameB (.str z) = (decide (1 ≤ z.length) && decide (z.length ≤ 8) && decide (z ∉ wordsL) && z.cps.toList.all fun c => decide (c ∈ lettersS.cps.toList)) := rfl
theorem name_len {z : Str} (h : ¬ (1 ≤ z.length ∧ z.length ≤ 8)) : nameB (.str z) = false := by
  rw [name_eq]
  by_cases h1 : 1 ≤ z.length
  · rw [decide_eq_true h1, decide_eq_false fun h2 => h ⟨h1, h2⟩]
    rfl
  · rw [decide_eq_false h1]
    rfl
theorem name_word {z : Str} (h : z ∈ wordsL) : nameB (.str z) = false := by
  rw [name_eq]
  rw [decide_eq_false (p := z ∉ wordsL) (fun k => k h), Bool.and_false]
  rfl
theorem name_rest {z : Str} (h1 : 1 ≤ z.length) (h2 : z.length ≤ 8) (h3 : z ∉ wordsL) : nameB (.str z) = z.cps.toList.all fun c => decide (c ∈ lettersS.cps.toList) := by
  rw [name_eq]
  rw [decide_eq_true h1, decide_eq_true h2, decide_eq_true h3]
  rfl
theorem all_drop {z : Str} {i c : Nat} (h : z.cps[i]? = some c) : (z.cps.toList.drop i).all (fun c => decide (c ∈ lettersS.cps.toList)) = (decide (c ∈ lettersS.cps.toList) && (z.cps.toList.drop (i + 1)).all fun c => decide (c ∈ lettersS.cps.toList)) := by
  rw [← Array.getElem?_toList] at h
  obtain ⟨hi, rfl⟩ := List.getElem?_eq_some_iff.mp h
  rw [List.drop_eq_getElem_cons hi]
  rfl
def spNameT (K : PySem.W.Frag) : Sp := fun vs H Q _ => ∃ (v : V) (t : Th) (N : Nat), vs = [v] ∧ TAt N K H v t ∧ ∀ H', Same H H' → Q (.bl (nameB t)) H'
theorem ok_nameT {f : Addr} {fd : FuncData} (F : Fun K "is_name" "is_name" sis_name f fd) (T : Bi mg) (W : Wd K mg) : FnOk P w K mg base CX0 1 f fd ["thing"] (spNameT K) := by
  refine F.ok scis_name (fun vs H Q E h => ?_) (fun cdv A outer s H vs Q E hr h => ?_)
  · obtain ⟨v, t, N, rfl, _⟩ := h
    rfl
  · obtain ⟨v, t, N, rfl, x, q⟩ := h
    have q := q H (Same.refl _)
    refine ⟨_, (pss_cons (ps_if (PW.pt (pw_or (pt_not (pt_val (pe_callB call_isT (by rfl) T.isinstance (by decide +kernel) (pa_cons (pv 0) (pa_cons (pe_bltn (v := .ty "str") (u := .type "str") (by rfl) T.str (by decide +kernel) rfl) pa_nil))))) (pw_or (pt_not (pt_chain op_le op_le pe_int (pe_callB call_lenX (by rfl) T.len PySem.boot_len (pa_cons (pv 0) pa_nil)) pe_int)) (pw_or1 (pt_cmpR op_in_seq (pv 0) (pe_glob rfl W.gWORDS W.rWORDS) (by rfl))))))
        (pss_one (ps_ret pe_bl))
        pss_nil)
      (pss_cons (ps_for PassesOwn.never rfl (pi_str (pv 0)) (pg_name (i := 1) scis_name.nd rfl (.inl rfl))
        (pss_one (ps_if (pt_cmpR op_notIn_sign (pv 1) (pe_glob rfl W.gLETTERS W.rLETTERS) (by rfl))
          (pss_one (ps_ret pe_bl))
          pss_nil)))
      (pss_one (ps_ret pe_bl)))), ?_⟩
    refine ⟨_, rfl, v, t, N, "str", rfl, x, by simp [tyL], _, rfl, ?_⟩
    rcases str_or x with ⟨z, rfl, rfl, hz, _⟩ | ⟨ht, hn⟩
    · rw [show isTh "str" (.str z) = true by simp [isTh, tyn]]
      refine iteF ⟨_, rfl, .inl ⟨z, rfl, szOk (by omega), 1, _, rfl, rfl, _, rfl, ite2 (fun e => ?_) (fun e => ?_)⟩⟩
      · have h1 : 1 ≤ z.length := by
          have := of_decide_eq_true e
          omega
        refine ⟨_, _, rfl, rfl, _, rfl, ite2 (fun e2 => ?_) (fun e2 => ?_)⟩
        · rw [name_len fun h => notdec e2 (by omega)] at q
          exact iteT q
        · have h2 : z.length ≤ 8 := by
            have := dec_of e2
            omega
          refine ⟨_, rfl, _, _, rfl, .inr (W.sW _), rfl, flat_str _, _, rfl, ?_⟩
          rw [inV_str]
          refine ite2 (fun e3 => ?_) (fun e3 => ?_)
          · rw [name_word (of_decide_eq_true e3)] at q
            exact q
          have h3 : z ∉ wordsL := fun k => e3 (decide_eq_true k)
          rw [name_rest h1 h2 h3] at q
          refine ⟨_, rfl, z, rfl, for_it walk_str (fun i σ H' => ∃ y, σ = [some (.str z), y] ∧ H' = H ∧ z.cps.toList.all (fun c => decide (c ∈ lettersS.cps.toList)) = (z.cps.toList.drop i).all fun c => decide (c ∈ lettersS.cps.toList)) ⟨_, rfl, rfl, rfl⟩ (fun _ _ _ _ _ => trivial) ?_ ?_⟩
          · rintro i x σ H1 H2 hi ⟨y, rfl, rfl, e4⟩ ⟨rfl, c, hc, rfl⟩
            rw [all_drop hc] at e4
            refine ⟨_, rfl, c, lettersS, rfl, rfl, _, rfl, ite2 (fun e5 => ?_) (fun e5 => ⟨_, rfl, rfl, ?_⟩)⟩
            · rw [decide_eq_false (notdec e5), Bool.false_and] at e4
              rw [e4] at q
              exact q
            · rw [e4, decide_eq_true (dec_of e5), Bool.true_and]
          · rintro σ H1 ⟨y, rfl, rfl, e4⟩
            rw [List.drop_of_length_le (by rw [Array.length_toList]; exact Nat.le_refl _)] at e4
            rw [e4] at q
            exact q
      · rw [name_len fun h => e (decide_eq_true (by omega))] at q
        exact ⟨_, rfl, iteT q⟩
    · rw [ht]
      rw [hn] at q
      exact iteT (iteT q)
theorem dpx_strs {H : Hp} : ∀ l : List Str, DpAll K H (l.map V.str) (l.map PyData.str)
  | [] => .nil
  | x :: r => .cons (.str x) (dpx_strs r)
theorem lay_strs : ∀ l : List Str, (∀ x ∈ l, PyData.canLay0 (.str x) = true) → PyData.canLayAll0 (l.map PyData.str) = true
  | [], _ => rfl
  | x :: r, h => by
    show (PyData.canLay0 (.str x) && PyData.canLayAll0 (r.map PyData.str)) = true
    rw [lay_strs r fun y hy => h y (List.mem_cons_of_mem _ hy), h x List.mem_cons_self]
    rfl
theorem dep_strs : ∀ l : List Str, PyData.depthAll (l.map PyData.str) = 0
  | [] => rfl
  | x :: r => by
    show max (PyData.depth (.str x)) (PyData.depthAll (r.map PyData.str)) = 0
    rw [dep_strs r]
    rfl
theorem shaped_strs {l : List Str} (h : ∀ x ∈ l, PyData.canLay0 (.str x) = true) : SeqAt.shaped (.list (l.map PyData.str)) = true := by
  unfold SeqAt.shaped
  rw [show PyData.canLay0 (.list (l.map PyData.str)) = true from lay_strs l h, show PyData.depth (.list (l.map PyData.str)) = 0 + 1 by rw [← dep_strs l] <;> rfl]
  rfl
theorem eqv_nilS (l : List Str) : PyData.eqv (.list (l.map PyData.str)) (.list (([] : List Str).map PyData.str)) = decide (l = []) := by
  cases l with
  | nil => rfl
  | cons x r => rfl
theorem sign_ok {c : Nat} (h : c < 1114112) : PyData.canLay0 (.str ⟨#[c]⟩) = true := by
  have e : (#[c] : Array Nat).all (· < 0x110000) = true := by simp [h]
  exact e
theorem ok_goodT {f : Addr} {fd : FuncData} (F : Fun K "_law_good_name" "_law_good_name" s_law_good_name f fd) (T : Bi mg) : FnOk P w K mg base CX0 1 f fd ["_law_thing"] (spNameT K) := by
  refine F.ok sc_law_good_name (fun vs H Q E h => ?_) (fun cdv A outer s H vs Q E hr h => ?_)
  · obtain ⟨v, t, N, rfl, _⟩ := h
    rfl
  · obtain ⟨v, t, N, rfl, x, q⟩ := h
    refine ⟨_, (pss_cons (ps_set (i := 1) sc_law_good_name.nd rfl (.inl rfl) (pe_lst (pa_cons pe_str (pa_cons pe_str (pa_cons pe_str (pa_cons pe_str (pa_cons pe_str (pa_cons pe_str (pa_cons pe_str (pa_cons pe_str (pa_cons pe_str (pa_cons pe_str (pa_cons pe_str (pa_cons pe_str (pa_cons pe_str pa_nil)))))))))))))))
      (pss_cons (ps_if (PW.pt (pw_or (pt_not (pt_val (pe_callB call_isT (by rfl) T.isinstance (by decide +kernel) (pa_cons (pv 0) (pa_cons (pe_bltn (v := .ty "str") (u := .type "str") (by rfl) T.str (by decide +kernel) rfl) pa_nil))))) (pw_or (pt_cmpR op_lt (pe_callB call_lenX (by rfl) T.len PySem.boot_len (pa_cons (pv 0) pa_nil)) pe_int (nomark _)) (pw_or (pt_cmpR op_gt (pe_callB call_lenX (by rfl) T.len PySem.boot_len (pa_cons (pv 0) pa_nil)) pe_int (nomark _)) (pw_or1 (pt_cmpR op_in_seq (pv 0) (pv 1) (by rfl)))))))
        (pss_one (ps_ret pe_bl))
        pss_nil)
      (pss_one (ps_ret (pe_cmpR (op_eqD hr.units) (pe_lc (own := [("_law_sign", 2)]) (g := gName 2) rfl sc_law_good_name.nd (pi_str (pv 0)) (blkOk_by (own := [("_law_sign", 2)]) (N := ["_law_thing", "_law_words", "_law_sign"]) (sc := defScope s_law_good_name) (by decide +kernel)) (fun _ _ _ _ _ => (pg_name (i := 2) sc_law_good_name.nd rfl (.inl rfl))) (fun _ _ _ _ _ => (pts_one (pt_cmpR op_notIn_sign (pv 2) pe_str (by rfl)))) (fun _ _ _ _ _ => (pv 2))) (pe_lst pa_nil) (nomark _)))))), ?_⟩
    refine ⟨by show 13 ≤ sizeLine; decide, fun l hl => ?_⟩
    have s0 : Same H (L2.upd H l (.lst (wordsL.map V.str))) := same_upd hl
    have hl0 : (L2.upd H l (.lst (wordsL.map V.str))) l = some (.lst (wordsL.map V.str)) := upd_same
    refine ⟨_, rfl, v, t, N, "str", rfl, x.same s0, by simp [tyL], _, rfl, ?_⟩
    rcases str_or x with ⟨z, rfl, rfl, hz, hcs⟩ | ⟨ht, hn⟩
    · rw [show isTh "str" (.str z) = true by simp [isTh, tyn]]
      refine iteF ⟨_, rfl, .inl ⟨z, rfl, szOk (by omega), _, _, rfl, rfl, _, rfl, ite2 (fun e => ?_) (fun e => ?_)⟩⟩
      · have := q _ s0
        rw [name_len fun h => by have := of_decide_eq_true e; omega] at this
        exact iteT this
      · refine ⟨_, rfl, .inl ⟨z, rfl, szOk (by omega), _, _, rfl, rfl, _, rfl, ite2 (fun e2 => ?_) (fun e2 => ?_)⟩⟩
        · have := q _ s0
          rw [name_len fun h => by have := of_decide_eq_true e2; omega] at this
          exact iteT this
        · have h1 : 1 ≤ z.length := by
            have : ¬ ((z.length : Int) < 1) := fun k => e (decide_eq_true k)
            omega
          have h2 : z.length ≤ 8 := by
            have : ¬ ((8 : Int) < (z.length : Int)) := fun k => e2 (decide_eq_true k)
            omega
          refine ⟨_, rfl, _, rfl, l, _, rfl, .inl (SqL.of hl0), rfl, flat_str _, _, rfl, ?_⟩
          rw [inV_str]
          refine ite2 (fun e3 => ?_) (fun e3 => ?_)
          · have := q _ s0
            rw [name_word (of_decide_eq_true e3)] at this
            exact this
          have h3 : z ∉ wordsL := fun k => e3 (decide_eq_true k)
          refine ⟨_, rfl, z, rfl, fun D hD => lc_it walk_str (fun i H' => ∃ gs : List Str, Same H H' ∧ H' D = some (.lst (gs.map V.str)) ∧ gs.length ≤ i ∧ (∀ x ∈ gs, PyData.canLay0 (.str x) = true) ∧ (decide (gs = []) && (z.cps.toList.drop i).all (fun c => decide (c ∈ lettersS.cps.toList))) = z.cps.toList.all fun c => decide (c ∈ lettersS.cps.toList))
            ⟨[], s0.trans (same_upd hD), upd_same, Nat.le_refl _, fun _ h => absurd h List.not_mem_nil, rfl⟩ (fun _ _ _ _ => trivial) ?_ ?_⟩
          · have hDH : H D = none := by
              cases e : H D with
              | none => rfl
              | some o =>
                exact nomatch hD.symm.trans (s0 _ _ e)
            rintro i x H1 H2 hi ⟨gs, s1, hD1, lg, ok, eg⟩ ⟨rfl, c, hc, rfl⟩
            have hc' : c ∈ z.cps.toList := by
              rw [← Array.getElem?_toList] at hc
              exact List.mem_of_getElem? hc
            rw [all_drop hc] at eg
            refine ⟨rfl, _, rfl, c, lettersS, rfl, rfl, _, rfl, ite2 (fun e5 => ⟨_, rfl, _, hD1, szLt (by rw [List.length_map]; have : z.cps.size = z.length := rfl; omega), gs ++ [⟨#[c]⟩], smut s1 hDH, ?_, ?_, ?_, ?_⟩) (fun e5 => ⟨gs, s1, hD1, by omega, ok, ?_⟩)⟩
            · rw [upd_same, List.map_append]
              rfl
            · rw [List.length_append]
              show gs.length + 1 ≤ i + 1
              omega
            · intro y hy
              rcases List.mem_append.mp hy with hy | hy
              · exact ok y hy
              · rw [List.mem_singleton.mp hy]
                exact sign_ok (hcs c hc')
            · rw [decide_eq_false (notdec e5), Bool.false_and, Bool.and_false] at eg
              rw [← eg, decide_eq_false (by simp), Bool.false_and]
            · rw [decide_eq_true (dec_of e5), Bool.true_and] at eg
              exact eg
          · rintro H1 ⟨gs, s1, hD1, lg, ok, eg⟩
            rw [List.drop_of_length_le (by rw [Array.length_toList]; exact Nat.le_refl _)] at eg
            refine ⟨by show 0 ≤ sizeLine; decide, fun u hu => ⟨_, _, .lst (SqL.of (same_upd hu _ _ hD1)) (dpx_strs gs), .lst (SqL.of upd_same) (dpx_strs []), shaped_strs ok, shaped_strs (fun _ h => absurd h List.not_mem_nil), ?_⟩⟩
            rw [eqv_nilS]
            have := q _ (s1.trans (same_upd (o := .lst []) hu))
            rw [name_rest h1 h2 h3, ← eg] at this
            simpa using this
    · rw [ht]
      have := q _ s0
      rw [hn] at this
      exact iteT (iteT this)
def spWholeT (K : PySem.W.Frag) : Sp := fun vs H Q _ => ∃ (v : V) (t : Th) (N : Nat), vs = [v] ∧ TAt N K H v t ∧ Q (.bl (wholeB t)) H
theorem ok_wholeT {f : Addr} {fd : FuncData} (F : Fun K "is_whole" "is_whole" sis_whole f fd) (T : Bi mg) : FnOk P w K mg base CX0 1 f fd ["thing"] (spWholeT K) := by
  refine F.ok scis_whole (fun vs H Q E h => ?_) (fun cdv A outer s H vs Q E hr h => ?_)
  · obtain ⟨v, t, N, rfl, _⟩ := h
    rfl
  · obtain ⟨v, t, N, rfl, x, q⟩ := h
    refine ⟨_, (pss_one (ps_ret (pe_and (pe_callB call_isT (by rfl) T.isinstance (by decide +kernel) (pa_cons (pv 0) (pa_cons (pe_bltn (v := .ty "int") (u := .type "int") (by rfl) T.int (by decide +kernel) rfl) pa_nil))) (pe_one (pe_not (pe_callB call_isT (by rfl) T.isinstance (by decide +kernel) (pa_cons (pv 0) (pa_cons (pe_bltn (v := .ty "bool") (u := .type "bool") (by rfl) T.bool (by decide +kernel) rfl) pa_nil)))))))), ?_⟩
    refine ⟨_, rfl, v, t, N, "int", rfl, x, by simp [tyL], _, rfl, ?_⟩
    cases t with
    | int i => exact iteT ⟨_, rfl, v, .int i, N, "bool", rfl, x, by simp [tyL], _, rfl, q⟩
    | bl b => exact iteT ⟨_, rfl, v, .bl b, N, "bool", rfl, x, by simp [tyL], _, rfl, q⟩
    | _ => exact iteF q
def spNumT (K : PySem.W.Frag) : Sp := fun vs H Q _ => ∃ (v : V) (t : Th) (N : Nat) (lo hi : Int), vs = [v, .int lo, .int hi] ∧ TAt N K H v t ∧ Q (.bl (numB t lo hi)) H
theorem int_v {N : Nat} {H : Hp} {v : V} {i : Int} (x : TAt N K H v (.int i)) : v = .int i := by
  cases x
  rfl
theorem ok_numT {f : Addr} {fd : FuncData} (F : Fun K "is_number" "is_number" sis_number f fd) (T : Bi mg) (cis_whole : Cal P w K mg base 1 "is_whole" ["thing"] (spWholeT K)) : FnOk P w K mg base CX0 2 f fd ["thing", "low", "high"] (spNumT K) := by
  refine F.ok scis_number (fun vs H Q E h => ?_) (fun cdv A outer s H vs Q E hr h => ?_)
  · obtain ⟨v, t, N, lo, hi, rfl, _⟩ := h
    rfl
  · obtain ⟨v, t, N, lo, hi, rfl, x, q⟩ := h
    refine ⟨_, (pss_one (ps_ret (pe_and (pe_call cis_whole.G hr (by rfl) cis_whole.g cis_whole.kp cis_whole.b .nil pass0 (pa_cons (pv 0) pa_nil)) (pe_one (pe_chain op_le op_lt (pv 1) (pv 0) (pv 2)))))), ?_⟩
    refine ⟨_, rfl, v, t, N, rfl, x, _, rfl, ?_⟩
    cases t with
    | int i =>
      obtain rfl := int_v x
      refine iteT ⟨_, rfl, _, rfl, lo, i, rfl, rfl, _, rfl, ite2 (fun e => ?_) (fun e => ?_)⟩
      · refine ⟨_, rfl, i, hi, rfl, rfl, ?_⟩
        have q : Q (.bl (decide (lo ≤ i) && decide (i < hi))) H := q
        rw [e, Bool.true_and] at q
        exact q
      · have q : Q (.bl (decide (lo ≤ i) && decide (i < hi))) H := q
        have e' : decide (lo ≤ i) = false := by simpa using e
        rw [e', Bool.false_and] at q
        exact q
    | _ => exact iteF q
theorem ok_lnumT {f : Addr} {fd : FuncData} (F : Fun K "_law_number" "_law_number" s_law_number f fd) (T : Bi mg) : FnOk P w K mg base CX0 1 f fd ["_law_thing", "_law_low", "_law_high"] (spNumT K) := by
  refine F.ok sc_law_number (fun vs H Q E h => ?_) (fun cdv A outer s H vs Q E hr h => ?_)
  · obtain ⟨v, t, N, lo, hi, rfl, _⟩ := h
    rfl
  · obtain ⟨v, t, N, lo, hi, rfl, x, q⟩ := h
    refine ⟨_, (pss_one (ps_ret (pe_and (pe_callB call_isT (by rfl) T.isinstance (by decide +kernel) (pa_cons (pv 0) (pa_cons (pe_bltn (v := .ty "int") (u := .type "int") (by rfl) T.int (by decide +kernel) rfl) pa_nil))) (pe_and (pe_not (pe_callB call_isT (by rfl) T.isinstance (by decide +kernel) (pa_cons (pv 0) (pa_cons (pe_bltn (v := .ty "bool") (u := .type "bool") (by rfl) T.bool (by decide +kernel) rfl) pa_nil)))) (pe_one (pe_chain op_le op_lt (pv 1) (pv 0) (pv 2))))))), ?_⟩
    refine ⟨_, rfl, v, t, N, "int", rfl, x, by simp [tyL], _, rfl, ?_⟩
    cases t with
    | int i =>
      obtain rfl := int_v x
      refine iteT ⟨_, rfl, _, .int i, N, "bool", rfl, x, by simp [tyL], _, rfl, true, rfl, iteT ⟨_, rfl, _, rfl, lo, i, rfl, rfl, _, rfl, ite2 (fun e => ?_) (fun e => ?_)⟩⟩
      · refine ⟨_, rfl, i, hi, rfl, rfl, ?_⟩
        have q : Q (.bl (decide (lo ≤ i) && decide (i < hi))) H := q
        rw [e, Bool.true_and] at q
        exact q
      · have q : Q (.bl (decide (lo ≤ i) && decide (i < hi))) H := q
        have e' : decide (lo ≤ i) = false := by simpa using e
        rw [e', Bool.false_and] at q
        exact q
    | bl b => exact iteT ⟨_, rfl, v, .bl b, N, "bool", rfl, x, by simp [tyL], _, rfl, false, rfl, iteF q⟩
    | _ => exact iteF q
end

/-! ### programs among things of any kind -/
def testsL : List Str := ["is", "not", "under"]
def asksL : List Str := ["can", "last"]
def fstS : Th → Str
  | .tup (.str z :: _) => z
  | _ => Str.ofString ""
def ofB (t : Th) (zs : List Str) : Bool := match t with
  | .str z => nameB (.str z) && decide (z ∈ zs)
  | _ => false
def worthB (t : Th) (cs : List Str) : Bool := match t with
  | .tup [a, b] => ofB a cs && numB b (-8) 9
  | t => numB t 0 9
def testB (t : Th) (cs : List Str) : Bool := match t with
  | .tup [a, .str x, c] => ofB a cs && (decide (x ∈ testsL) && worthB c cs)
  | _ => false
def setRowB (t : Th) (cs : List Str) : Bool := match t with
  | .tup [a, b] => ofB a cs && worthB b cs
  | _ => false
def cellB (t : Th) : Bool := match t with
  | .tup [a, .int n, c] => nameB a && (numB (.int n) 1 10 && numB c 0 n)
  | _ => false
def commandB (t : Th) (cs : List Str) : Bool := match t with
  | .tup [a, .tup ts, .tup ss] => nameB a && (decide (ts.length ≤ 4) && (decide (ss.length ≤ 4) && (ts.all (testB · cs) && (ss.all (setRowB · cs) && decide (ss.map fstS).Nodup))))
  | _ => false
def askB (t : Th) (cs ms : List Str) (keeps : Bool) : Bool := match t with
  | .tup [.str x, b] => decide (x ∈ asksL) && (ofB b ms && (keeps || decide (x = Str.ofString "can")))
  | .tup [_, _] => false
  | t => testB t cs
def askRowB (t : Th) (cs ms : List Str) (keeps : Bool) : Bool := match t with
  | .tup as => decide (as.length ≤ 4) && as.all (askB · cs ms keeps)
  | _ => false
def markB (t : Th) (cs ms : List Str) (keeps : Bool) : Bool := match t with
  | .tup [a, .tup rows] => nameB a && (decide (rows.length ≤ 4) && rows.all (askRowB · cs ms keeps))
  | _ => false
def progB (t : Th) : Bool := match t with
  | .tup [.tup cs, .tup ms, .tup ks, .bl keeps] => decide (1 ≤ cs.length) && (decide (cs.length ≤ 4) && (cs.all cellB && (decide (ms.length ≤ 8) && (ms.all (commandB · (cs.map fstS)) && (decide (ks.length ≤ 8) && (ks.all (markB · (cs.map fstS) (ms.map fstS) keeps) &&
      (decide (cs.map fstS).Nodup && (decide (ms.map fstS).Nodup && decide (ks.map fstS).Nodup))))))))
  | _ => false
section
variable {N : Nat} {K : PySem.W.Frag} {H : Hp}
theorem row_tup {v : V} {t : Th} {lo hi : Int} (x : TAt N K H v t) (h : rowB t lo hi = true) : ∃ a xs ts, v = .ref a ∧ t = .tup ts ∧ SqT K H a xs ∧ TAll N K H xs ts ∧ lo ≤ xs.length ∧ (xs.length : Int) ≤ hi := by
  rcases tup_or x with ⟨a, xs, ts, rfl, rfl, hx, hl, hall⟩ | ht
  · have h' : (decide (lo ≤ ts.length) && decide ((ts.length : Int) ≤ hi)) = true := h
    rw [Bool.and_eq_true, ← hall.len] at h'
    exact ⟨a, xs, ts, rfl, rfl, hx, hall, of_decide_eq_true h'.1, of_decide_eq_true h'.2⟩
  · rw [row_no ht] at h
    cases h
theorem row_eq {ts : List Th} {lo hi : Int} : rowB (.tup ts) lo hi = (decide (lo ≤ ts.length) && decide ((ts.length : Int) ≤ hi)) := rfl
theorem row2 {v : V} {t : Th} (x : TAt N K H v t) (h : rowB t 2 2 = true) : ∃ a x0 x1 t0 t1, v = .ref a ∧ t = .tup [t0, t1] ∧ SqT K H a [x0, x1] ∧ TAt N K H x0 t0 ∧ TAt N K H x1 t1 := by
  obtain ⟨a, xs, ts, rfl, rfl, hx, hall, l0, l1⟩ := row_tup x h
  cases hall with
  | nil => simp at l0
  | cons y0 r => cases r with
    | nil => simp at l0
    | cons y1 r => cases r with
      | nil => exact ⟨a, _, _, _, _, rfl, rfl, hx, y0, y1⟩
      | cons y2 r => simp at l1; omega
theorem row3 {v : V} {t : Th} (x : TAt N K H v t) (h : rowB t 3 3 = true) : ∃ a x0 x1 x2 t0 t1 t2, v = .ref a ∧ t = .tup [t0, t1, t2] ∧ SqT K H a [x0, x1, x2] ∧ TAt N K H x0 t0 ∧ TAt N K H x1 t1 ∧ TAt N K H x2 t2 := by
  obtain ⟨a, xs, ts, rfl, rfl, hx, hall, l0, l1⟩ := row_tup x h
  cases hall with
  | nil => simp at l0
  | cons y0 r => cases r with
    | nil => simp at l0
    | cons y1 r => cases r with
      | nil => simp at l0
      | cons y2 r => cases r with
        | nil => exact ⟨a, _, _, _, _, _, _, rfl, rfl, hx, y0, y1, y2⟩
        | cons y3 r => simp at l1; omega
theorem row4 {v : V} {t : Th} (x : TAt N K H v t) (h : rowB t 4 4 = true) : ∃ a x0 x1 x2 x3 t0 t1 t2 t3, v = .ref a ∧ t = .tup [t0, t1, t2, t3] ∧ SqT K H a [x0, x1, x2, x3] ∧ TAt N K H x0 t0 ∧ TAt N K H x1 t1 ∧ TAt N K H x2 t2 ∧ TAt N K H x3 t3 := by
  obtain ⟨a, xs, ts, rfl, rfl, hx, hall, l0, l1⟩ := row_tup x h
  cases hall with
  | nil => simp at l0
  | cons y0 r => cases r with
    | nil => simp at l0
    | cons y1 r => cases r with
      | nil => simp at l0
      | cons y2 r => cases r with
        | nil => simp at l0
        | cons y3 r => cases r with
          | nil => exact ⟨a, _, _, _, _, _, _, _, _, rfl, rfl, hx, y0, y1, y2, y3⟩
          | cons y4 r => simp at l1; omega
theorem two_no {t : Th} (h : rowB t 2 2 = false) : ∀ a b, t ≠ .tup [a, b] := fun a b e => by
  rw [e] at h
  cases h
theorem three_no {t : Th} (h : rowB t 3 3 = false) : ∀ a b c, t ≠ .tup [a, b, c] := fun a b c e => by
  rw [e] at h
  cases h
theorem four_no {t : Th} (h : rowB t 4 4 = false) : ∀ a b c d, t ≠ .tup [a, b, c, d] := fun a b c d e => by
  rw [e] at h
  cases h
theorem worth_no {t : Th} {cs : List Str} (h : rowB t 2 2 = false) : worthB t cs = numB t 0 9 := by
  unfold worthB
  split
  · exact absurd rfl (two_no h _ _)
  · rfl
theorem test_no {t : Th} {cs : List Str} (h : rowB t 3 3 = false) : testB t cs = false := by
  unfold testB
  split
  · exact absurd rfl (three_no h _ _ _)
  · rfl
theorem setRow_no {t : Th} {cs : List Str} (h : rowB t 2 2 = false) : setRowB t cs = false := by
  unfold setRowB
  split
  · exact absurd rfl (two_no h _ _)
  · rfl
theorem cell_no {t : Th} (h : rowB t 3 3 = false) : cellB t = false := by
  unfold cellB
  split
  · exact absurd rfl (three_no h _ _ _)
  · rfl
theorem command_no {t : Th} {cs : List Str} (h : rowB t 3 3 = false) : commandB t cs = false := by
  unfold commandB
  split
  · exact absurd rfl (three_no h _ _ _)
  · rfl
theorem ask_no {t : Th} {cs ms : List Str} {k : Bool} (h : rowB t 2 2 = false) : askB t cs ms k = testB t cs := by
  unfold askB
  split
  · exact absurd rfl (two_no h _ _)
  · exact absurd rfl (two_no h _ _)
  · rfl
theorem mark_no {t : Th} {cs ms : List Str} {k : Bool} (h : rowB t 2 2 = false) : markB t cs ms k = false := by
  unfold markB
  split
  · exact absurd rfl (two_no h _ _)
  · rfl
theorem prog_no {t : Th} (h : rowB t 4 4 = false) : progB t = false := by
  unfold progB
  split
  · exact absurd rfl (four_no h _ _ _ _)
  · rfl
theorem str_v {v : V} {z : Str} (x : TAt N K H v (.str z)) : v = .str z := by
  cases x
  rfl
theorem bl_v {v : V} {b : Bool} (x : TAt N K H v (.bl b)) : v = .bl b := by
  cases x
  rfl
theorem nameB_str {t : Th} (h : nameB t = true) : ∃ z, t = .str z := by
  cases t with
  | str z => exact ⟨z, rfl⟩
  | _ => cases h
theorem ofB_str {t : Th} {zs : List Str} (h : ofB t zs = true) : ∃ z, t = .str z := by
  cases t with
  | str z => exact ⟨z, rfl⟩
  | _ => cases h
/-- over a tuple of things, each turn telling f of its thing -/
theorem lc_thT {a : Addr} {xs : List V} {ts : List Th} {j : Nat} {tt : TT} {te : TE} {vs : List Nat} {σ : L2.St} {H1 : Hp} {D : Addr} {Qd : Hp → Prop} (f : Th → V) (hx : SqT K H1 a xs) (hall : TAll N K H1 xs ts) (hD : H1 D = none) (hn : xs.length ≤ 100000)
    (hw : ∀ x, wipe ((wipe σ vs).set j (some x)) vs = wipe σ vs)
    (turn : ∀ (x : V) (t : Th) (H : Hp), t ∈ ts → TAt N K H x t → Same H1 H → ∀ (N1 : V → Hp → Prop) (N2 : Hp → Prop), (∀ H', Same H H' → N1 (f t) H') → tt ((wipe σ vs).set j (some x)) H fun b H3 => if b = true then te ((wipe σ vs).set j (some x)) H3 N1 else N2 H3)
    (done : ∀ H, Same H1 H → H D = some (.lst (ts.map f)) → Qd H) :
    ∃ W : Nat → Nat → Hp → Prop, (∃ m, W 0 m (upd H1 D (.lst []))) ∧ ∀ i m H, W i m H →
      ((Itt K a).stop i H ∧ Qd H) ∨ ((Itt K a).go i H ∧ ∃ Nx : Hp → Prop, (∀ H', Nx H' → ∃ m', m' < m ∧ W (i + 1) m' H') ∧ ∀ x H', (Itt K a).yld i H x H' → (gName j) x (wipe σ vs) H' fun σ2 H2 => wipe σ2 vs = wipe σ vs ∧ tt σ2 H2 fun b H3 =>
        if b = true then te σ2 H3 fun y H4 => ∃ acc, H4 D = some (.lst acc) ∧ acc.length < sizeLine ∧ Nx (upd H4 D (.lst (acc ++ [y]))) else Nx H3) := by
  refine lc_tupS (fun i acc => acc = (ts.take i).map f) hx hD hn rfl hw (fun i x H acc hi s1 e _ N1 N2 k1 _ => ?_) (fun H acc s1 hD2 hl e => ?_)
  · obtain ⟨t, ht, xt⟩ := hall.get hi
    refine turn x t H (List.mem_of_getElem? ht) (xt.same s1) s1 N1 N2 fun H' s2 => k1 (f t) H' s2 ?_
    rw [e, List.take_add_one, ht, List.map_append]
    rfl
  · rw [e, hall.len, List.take_length] at hD2
    exact done H s1 hD2
theorem all_bl (p : Th → Bool) (ts : List Th) : ts.map (fun t => V.bl (p t)) = (ts.map p).map V.bl := by
  rw [List.map_map]
  rfl
theorem all_id (p : Th → Bool) (ts : List Th) : (ts.map p).all id = ts.all p := by
  rw [List.all_map]
  rfl
end

/-! ### fairtrees.programs, on things of any kind -/
abbrev sis_of : Stmt := topS 30
theorem scis_of : FnScope ["thing", "names"] ["thing", "names"] (defScope sis_of) := ⟨rfl, rfl, rfl, by decide +kernel, rfl, by decide +kernel, by decide +kernel⟩
abbrev sare_unlike : Stmt := topS 31
theorem scare_unlike : FnScope ["names", "name"] ["names"] (defScope sare_unlike) := ⟨rfl, rfl, rfl, by decide +kernel, rfl, by decide +kernel, by decide +kernel⟩
abbrev sis_worth : Stmt := topS 32
theorem scis_worth : FnScope ["thing", "cells"] ["thing", "cells"] (defScope sis_worth) := ⟨rfl, rfl, rfl, by decide +kernel, rfl, by decide +kernel, by decide +kernel⟩
abbrev sis_test : Stmt := topS 33
theorem scis_test : FnScope ["thing", "cells"] ["thing", "cells"] (defScope sis_test) := ⟨rfl, rfl, rfl, by decide +kernel, rfl, by decide +kernel, by decide +kernel⟩
abbrev sis_set_row : Stmt := topS 34
theorem scis_set_row : FnScope ["thing", "cells"] ["thing", "cells"] (defScope sis_set_row) := ⟨rfl, rfl, rfl, by decide +kernel, rfl, by decide +kernel, by decide +kernel⟩
abbrev sis_cell : Stmt := topS 35
theorem scis_cell : FnScope ["thing"] ["thing"] (defScope sis_cell) := ⟨rfl, rfl, rfl, by decide +kernel, rfl, by decide +kernel, by decide +kernel⟩
structure Wp (K : PySem.W.Frag) (mg : Str → Option Value) where
  aT : Addr
  aA : Addr
  gTESTS : mg "TESTS" = some (.ref aT)
  rTESTS : RelV (.ref aT) (.ref aT)
  sT : ∀ H, SqT K H aT (testsL.map V.str)
  gASKS : mg "ASKS" = some (.ref aA)
  rASKS : RelV (.ref aA) (.ref aA)
  sA : ∀ H, SqT K H aA (asksL.map V.str)
section
variable {P : Program} {w : World} {K : PySem.W.Frag} {mg : Str → Option Value} {base : Heap}
def spOf (K : PySem.W.Frag) : Sp := fun vs H Q _ => ∃ (v : V) (t : Th) (N : Nat) (l : Addr) (zs : List Str), vs = [v, .ref l] ∧ TAt N K H v t ∧ SqL K H l (zs.map V.str) ∧ ∀ H', Same H H' → Q (.bl (ofB t zs)) H'
theorem ok_of {f : Addr} {fd : FuncData} (F : Fun K "is_of" "is_of" sis_of f fd) (cis_name : Cal P w K mg base 1 "is_name" ["thing"] (spNameT K)) : FnOk P w K mg base CX0 2 f fd ["thing", "names"] (spOf K) := by
  refine F.ok scis_of (fun vs H Q E h => ?_) (fun cdv A outer s H vs Q E hr h => ?_)
  · obtain ⟨v, t, N, l, zs, rfl, _⟩ := h
    rfl
  · obtain ⟨v, t, N, l, zs, rfl, x, hl, q⟩ := h
    refine ⟨_, (pss_one (ps_ret (pe_and (pe_call cis_name.G hr (by rfl) cis_name.g cis_name.kp cis_name.b .nil pass0 (pa_cons (pv 0) pa_nil)) (pe_one (pe_cmpR op_in_seq (pv 0) (pv 1) (by rfl)))))), ?_⟩
    refine ⟨_, rfl, v, t, N, rfl, x, fun H2 s2 => ⟨_, rfl, ?_⟩⟩
    have q := q H2 s2
    cases hn : nameB t with
    | false =>
      have e : ofB t zs = false := by
        unfold ofB
        split
        · rw [hn]
          rfl
        · rfl
      rw [e] at q
      exact iteF q
    | true =>
      obtain ⟨z, rfl⟩ := nameB_str hn
      obtain rfl := str_v x
      have e : ofB (.str z) zs = decide (z ∈ zs) := by
        show (nameB (.str z) && decide (z ∈ zs)) = _
        rw [hn, Bool.true_and]
      rw [e] at q
      refine iteT ⟨_, rfl, _, rfl, l, _, rfl, .inl (s2.seq hl), rfl, flat_str _, ?_⟩
      rw [inV_str]
      exact q
def spUnlike (K : PySem.W.Frag) : Sp := fun vs H Q _ => ∃ (l : Addr) (zs : List Str), vs = [.ref l] ∧ SqL K H l (zs.map V.str) ∧ zs.length ≤ 1000 ∧ ∀ H', Same H H' → Q (.bl (decide zs.Nodup)) H'
theorem ok_unlike {f : Addr} {fd : FuncData} (F : Fun K "are_unlike" "are_unlike" sare_unlike f fd) (T : Bi mg) : FnOk P w K mg base CX0 1 f fd ["names"] (spUnlike K) := by
  refine F.ok scare_unlike (fun vs H Q E h => ?_) (fun cdv A outer s H vs Q E hr h => ?_)
  · obtain ⟨l, zs, rfl, _⟩ := h
    rfl
  · obtain ⟨l, zs, rfl, hl, lz, q⟩ := h
    refine ⟨_, (pss_one (ps_ret (pe_cmpR op_eq (pe_callB SCK.call_lenK (by rfl) T.len PySem.boot_len (pa_cons (SCK.pe_scK (own := [("name", 1)]) (g := gName 1) rfl scare_unlike.nd (pi_list (pv 0)) (blkOk_by (own := [("name", 1)]) (N := ["names", "name"]) (sc := defScope sare_unlike) (by decide +kernel)) (fun _ _ _ _ _ => (pg_name (i := 1) scare_unlike.nd rfl (.inl rfl))) (fun _ _ _ _ _ => pts_nil) (fun _ _ _ _ _ => (pv 1))) pa_nil)) (pe_callB call_len_seq (by rfl) T.len PySem.boot_len (pa_cons (pv 0) pa_nil)) (nomark _)))), ?_⟩
    refine ⟨_, rfl, l, rfl, ⟨_, hl⟩, fun D hD => SCK.sc_list (xs := zs.map V.str) (fun i H' => ∃ (S : Key → Bool) (n : Nat), Same H H' ∧ H' D = some (SetK P w D S n) ∧ (∀ z, S (.inr z) = true ↔ z ∈ zs.take i) ∧ n ≤ i ∧ (n = i ↔ (zs.take i).Nodup)) ⟨_, _, same_upd hD, upd_same, fun z => by simp, Nat.le_refl _, by simp⟩ (fun i H' ⟨_, _, s1, _⟩ => s1.seq hl) ?_ ?_⟩
    · rintro i x H1 hi ⟨S, n, s1, hD1, hS, hn, hu⟩
      obtain ⟨z, hz, rfl⟩ := map_get hi
      have hil : i < zs.length := (List.getElem?_eq_some_iff.mp hz).1
      have et : zs.take (i + 1) = zs.take i ++ [z] := by
        rw [List.take_add_one, hz]
        rfl
      refine ⟨rfl, _, rfl, .inr z, S, n, rfl, hD1, by unfold scanBound; omega, _, _, smut s1 hD, upd_same, fun y => ?_, ?_, ?_⟩
      · rw [et, List.mem_append, List.mem_singleton, ← hS y]
        by_cases e : y = z
        · subst e
          simp
        · have : decide ((Sum.inr y : Key) = Sum.inr z) = false := decide_eq_false fun h => e (Sum.inr.inj h)
          rw [this, Bool.or_false]
          exact ⟨.inl, fun h => h.elim id fun h => absurd h e⟩
      · split <;> omega
      · rw [et, List.nodup_append]
        by_cases e : S (.inr z) = true
        · rw [if_pos e]
          refine ⟨fun h => by omega, fun h => ?_⟩
          exact absurd rfl (h.2.2 z ((hS z).mp e) z (List.mem_singleton.mpr rfl))
        · rw [if_neg e]
          refine ⟨fun h => ⟨hu.mp (by omega), by simp, fun a ha b hb => ?_⟩, fun h => ?_⟩
          · rw [List.mem_singleton.mp hb]
            rintro rfl
            exact e ((hS a).mpr ha)
          · have := hu.mpr h.1
            omega
    · rintro H1 ⟨S, n, s1, hD1, hS, hn, hu⟩
      rw [List.length_map, List.take_length] at hu
      refine ⟨D, S, n, rfl, hD1, _, rfl, l, _, rfl, .inl (s1.seq hl), rfl, ?_⟩
      rw [dec_int, List.length_map]
      have e : decide ((n : Int) = (zs.length : Int)) = decide zs.Nodup := by
        by_cases h : zs.Nodup
        · rw [decide_eq_true h]
          exact decide_eq_true (by rw [hu.mpr h])
        · rw [decide_eq_false h]
          exact decide_eq_false fun k => h (hu.mp (by omega))
      rw [e]
      exact q H1 s1
def spWorth (K : PySem.W.Frag) : Sp := fun vs H Q _ => ∃ (v : V) (t : Th) (N : Nat) (l : Addr) (zs : List Str), vs = [v, .ref l] ∧ TAt N K H v t ∧ SqL K H l (zs.map V.str) ∧ ∀ H', Same H H' → Q (.bl (worthB t zs)) H'
theorem ok_worth {f : Addr} {fd : FuncData} (F : Fun K "is_worth" "is_worth" sis_worth f fd) (cis_row : Cal P w K mg base 1 "is_row" ["thing", "least", "most"] (spRowT K)) (cis_number : Cal P w K mg base 2 "is_number" ["thing", "low", "high"] (spNumT K))
    (cis_of : Cal P w K mg base 2 "is_of" ["thing", "names"] (spOf K)) : FnOk P w K mg base CX0 3 f fd ["thing", "cells"] (spWorth K) := by
  refine F.ok scis_worth (fun vs H Q E h => ?_) (fun cdv A outer s H vs Q E hr h => ?_)
  · obtain ⟨v, t, N, l, zs, rfl, _⟩ := h
    rfl
  · obtain ⟨v, t, N, l, zs, rfl, x, hl, q⟩ := h
    refine ⟨_, (pss_cons (ps_if (pt_val (pe_call cis_row.G (hr.mono (by decide)) (by rfl) cis_row.g cis_row.kp cis_row.b .nil pass0 (pa_cons (pv 0) (pa_cons pe_int (pa_cons pe_int pa_nil)))))
        (pss_one (ps_ret (pe_and (pe_call cis_of.G hr (by rfl) cis_of.g cis_of.kp cis_of.b .nil pass0 (pa_cons (pe_ix ix_tup (pv 0) pe_int (fun _ _ => rfl)) (pa_cons (pv 1) pa_nil))) (pe_one (pe_call cis_number.G hr (by rfl) cis_number.g cis_number.kp cis_number.b .nil pass0 (pa_cons (pe_ix ix_tup (pv 0) pe_int (fun _ _ => rfl)) (pa_cons (pe_un un_neg pe_int) (pa_cons pe_int pa_nil))))))))
        pss_nil)
      (pss_one (ps_ret (pe_call cis_number.G hr (by rfl) cis_number.g cis_number.kp cis_number.b .nil pass0 (pa_cons (pv 0) (pa_cons pe_int (pa_cons pe_int pa_nil))))))), ?_⟩
    refine ⟨_, rfl, v, t, N, 2, 2, rfl, x, _, rfl, ?_⟩
    cases hrow : rowB t 2 2 with
    | false =>
      have q := q H (Same.refl _)
      rw [worth_no hrow] at q
      exact iteF ⟨_, rfl, v, t, N, 0, 9, rfl, x, q⟩
    | true =>
      obtain ⟨a, x0, x1, t0, t1, rfl, rfl, hx, y0, y1⟩ := row2 x hrow
      refine iteT ⟨_, rfl, a, _, 0, x0, rfl, rfl, hx, at_of (j := 0) rfl rfl, _, rfl, x0, t0, N, l, zs, rfl, y0, hl, fun H2 s2 => ⟨_, rfl, ?_⟩⟩
      have q := q H2 s2
      have e : worthB (.tup [t0, t1]) zs = (ofB t0 zs && numB t1 (-8) 9) := rfl
      rw [e] at q
      cases ho : ofB t0 zs with
      | false =>
        rw [ho, Bool.false_and] at q
        exact iteF q
      | true =>
        rw [ho, Bool.true_and] at q
        exact iteT ⟨_, rfl, a, _, 1, x1, rfl, rfl, ssqt s2 hx, at_of (j := 1) rfl rfl, _, rfl, x1, t1, N, -8, 9, rfl, y1.same s2, q⟩
def spTest (K : PySem.W.Frag) : Sp := fun vs H Q _ => ∃ (v : V) (t : Th) (N : Nat) (l : Addr) (zs : List Str), vs = [v, .ref l] ∧ TAt N K H v t ∧ SqL K H l (zs.map V.str) ∧ ∀ H', Same H H' → Q (.bl (testB t zs)) H'
theorem test_of {t0 t1 t2 : Th} {zs : List Str} (h : ofB t0 zs = false) : testB (.tup [t0, t1, t2]) zs = false := by
  cases t1 with
  | str z =>
    show (ofB t0 zs && _) = false
    rw [h, Bool.false_and]
  | _ => rfl
theorem ok_test {f : Addr} {fd : FuncData} (F : Fun K "is_test" "is_test" sis_test f fd) (T : Bi mg) (W : Wp K mg) (cis_row : Cal P w K mg base 1 "is_row" ["thing", "least", "most"] (spRowT K)) (cis_of : Cal P w K mg base 2 "is_of" ["thing", "names"] (spOf K))
    (cis_worth : Cal P w K mg base 3 "is_worth" ["thing", "cells"] (spWorth K)) : FnOk P w K mg base CX0 4 f fd ["thing", "cells"] (spTest K) := by
  refine F.ok scis_test (fun vs H Q E h => ?_) (fun cdv A outer s H vs Q E hr h => ?_)
  · obtain ⟨v, t, N, l, zs, rfl, _⟩ := h
    rfl
  · obtain ⟨v, t, N, l, zs, rfl, x, hl, q⟩ := h
    refine ⟨_, (pss_cons (ps_if (PW.pt (pw_or (pt_not (pt_val (pe_call cis_row.G (hr.mono (by decide)) (by rfl) cis_row.g cis_row.kp cis_row.b .nil pass0 (pa_cons (pv 0) (pa_cons pe_int (pa_cons pe_int pa_nil)))))) (pw_or1 (pt_not (pt_val (pe_call cis_of.G (hr.mono (by decide)) (by rfl) cis_of.g cis_of.kp cis_of.b .nil pass0 (pa_cons (pe_ix ix_tup (pv 0) pe_int (fun _ _ => rfl)) (pa_cons (pv 1) pa_nil))))))))
        (pss_one (ps_ret pe_bl))
        pss_nil)
      (pss_one (ps_ret (pe_and (pe_callB call_isT (by rfl) T.isinstance (by decide +kernel) (pa_cons (pe_ix ix_tup (pv 0) pe_int (fun _ _ => rfl)) (pa_cons (pe_bltn (v := .ty "str") (u := .type "str") (by rfl) T.str (by decide +kernel) rfl) pa_nil))) (pe_and (pe_cmpR op_in_seq (pe_ix ix_tup (pv 0) pe_int (fun _ _ => rfl)) (pe_glob rfl W.gTESTS W.rTESTS) (by rfl)) (pe_one (pe_call cis_worth.G hr (by rfl) cis_worth.g cis_worth.kp cis_worth.b .nil pass0 (pa_cons (pe_ix ix_tup (pv 0) pe_int (fun _ _ => rfl)) (pa_cons (pv 1) pa_nil))))))))), ?_⟩
    refine ⟨_, rfl, v, t, N, 3, 3, rfl, x, _, rfl, ?_⟩
    cases hrow : rowB t 3 3 with
    | false =>
      have q := q H (Same.refl _)
      rw [test_no hrow] at q
      exact iteT q
    | true =>
      obtain ⟨a, x0, x1, x2, t0, t1, t2, rfl, rfl, hx, y0, y1, y2⟩ := row3 x hrow
      refine iteF ⟨_, rfl, a, _, 0, x0, rfl, rfl, hx, at_of (j := 0) rfl rfl, _, rfl, x0, t0, N, l, zs, rfl, y0, hl, fun H2 s2 => ⟨_, rfl, ?_⟩⟩
      have q2 := q H2 s2
      cases ho : ofB t0 zs with
      | false =>
        rw [test_of ho] at q2
        exact iteT q2
      | true =>
        refine iteF ⟨_, rfl, a, _, 1, x1, rfl, rfl, ssqt s2 hx, at_of (j := 1) rfl rfl, x1, t1, N, "str", rfl, y1.same s2, by simp [tyL], _, rfl, ?_⟩
        rcases str_or y1 with ⟨z, rfl, rfl, _, _⟩ | ⟨h1, h2⟩
        · rw [show isTh "str" (.str z) = true by simp [isTh, tyn]]
          have e : testB (.tup [t0, .str z, t2]) zs = (decide (z ∈ testsL) && worthB t2 zs) := by
            show (ofB t0 zs && (decide (z ∈ testsL) && worthB t2 zs)) = _
            rw [ho, Bool.true_and]
          rw [e] at q2 q
          refine iteT ⟨_, rfl, a, _, 1, .str z, rfl, rfl, ssqt s2 hx, at_of (j := 1) rfl rfl, _, _, rfl, .inr (W.sT _), rfl, flat_str _, _, rfl, ?_⟩
          rw [inV_str]
          by_cases hz : z ∈ testsL
          · rw [decide_eq_true hz, Bool.true_and] at q
            rw [decide_eq_true hz]
            exact iteT ⟨_, rfl, a, _, 2, x2, rfl, rfl, ssqt s2 hx, at_of (j := 2) rfl rfl, _, rfl, x2, t2, N, l, zs, rfl, y2.same s2, s2.seq hl, fun H3 s3 => q H3 (s2.trans s3)⟩
          · rw [decide_eq_false hz, Bool.false_and] at q2
            rw [decide_eq_false hz]
            exact iteF q2
        · rw [h1]
          have e : testB (.tup [t0, t1, t2]) zs = false := by
            cases t1 with
            | str z => simp [isTh, tyn] at h1
            | _ => rfl
          rw [e] at q2
          exact iteF q2
def spSetRow (K : PySem.W.Frag) : Sp := fun vs H Q _ => ∃ (v : V) (t : Th) (N : Nat) (l : Addr) (zs : List Str), vs = [v, .ref l] ∧ TAt N K H v t ∧ SqL K H l (zs.map V.str) ∧ ∀ H', Same H H' → Q (.bl (setRowB t zs)) H'
theorem ok_setrow {f : Addr} {fd : FuncData} (F : Fun K "is_set_row" "is_set_row" sis_set_row f fd) (cis_row : Cal P w K mg base 1 "is_row" ["thing", "least", "most"] (spRowT K)) (cis_of : Cal P w K mg base 2 "is_of" ["thing", "names"] (spOf K))
    (cis_worth : Cal P w K mg base 3 "is_worth" ["thing", "cells"] (spWorth K)) : FnOk P w K mg base CX0 4 f fd ["thing", "cells"] (spSetRow K) := by
  refine F.ok scis_set_row (fun vs H Q E h => ?_) (fun cdv A outer s H vs Q E hr h => ?_)
  · obtain ⟨v, t, N, l, zs, rfl, _⟩ := h
    rfl
  · obtain ⟨v, t, N, l, zs, rfl, x, hl, q⟩ := h
    refine ⟨_, (pss_one (ps_ret (pe_and (pe_call cis_row.G (hr.mono (by decide)) (by rfl) cis_row.g cis_row.kp cis_row.b .nil pass0 (pa_cons (pv 0) (pa_cons pe_int (pa_cons pe_int pa_nil)))) (pe_and (pe_call cis_of.G (hr.mono (by decide)) (by rfl) cis_of.g cis_of.kp cis_of.b .nil pass0 (pa_cons (pe_ix ix_tup (pv 0) pe_int (fun _ _ => rfl)) (pa_cons (pv 1) pa_nil))) (pe_one (pe_call cis_worth.G hr (by rfl) cis_worth.g cis_worth.kp cis_worth.b .nil pass0 (pa_cons (pe_ix ix_tup (pv 0) pe_int (fun _ _ => rfl)) (pa_cons (pv 1) pa_nil)))))))), ?_⟩
    refine ⟨_, rfl, v, t, N, 2, 2, rfl, x, _, rfl, ?_⟩
    cases hrow : rowB t 2 2 with
    | false =>
      have q := q H (Same.refl _)
      rw [setRow_no hrow] at q
      exact iteF q
    | true =>
      obtain ⟨a, x0, x1, t0, t1, rfl, rfl, hx, y0, y1⟩ := row2 x hrow
      have e : setRowB (.tup [t0, t1]) zs = (ofB t0 zs && worthB t1 zs) := rfl
      rw [e] at q
      refine iteT ⟨_, rfl, a, _, 0, x0, rfl, rfl, hx, at_of (j := 0) rfl rfl, _, rfl, x0, t0, N, l, zs, rfl, y0, hl, fun H2 s2 => ⟨_, rfl, ?_⟩⟩
      cases ho : ofB t0 zs with
      | false =>
        have q := q H2 s2
        rw [ho, Bool.false_and] at q
        exact iteF q
      | true =>
        rw [ho, Bool.true_and] at q
        exact iteT ⟨_, rfl, a, _, 1, x1, rfl, rfl, ssqt s2 hx, at_of (j := 1) rfl rfl, _, rfl, x1, t1, N, l, zs, rfl, y1.same s2, s2.seq hl, fun H3 s3 => q H3 (s2.trans s3)⟩
def spCell (K : PySem.W.Frag) : Sp := fun vs H Q _ => ∃ (v : V) (t : Th) (N : Nat), vs = [v] ∧ TAt N K H v t ∧ ∀ H', Same H H' → Q (.bl (cellB t)) H'
theorem cell_name {t0 t1 t2 : Th} (h : nameB t0 = false) : cellB (.tup [t0, t1, t2]) = false := by
  cases t1 with
  | int n =>
    show (nameB t0 && _) = false
    rw [h, Bool.false_and]
  | _ => rfl
theorem cell_num {t0 t1 t2 : Th} (h : numB t1 1 10 = false) : cellB (.tup [t0, t1, t2]) = false := by
  cases t1 with
  | int n =>
    show (nameB t0 && (numB (.int n) 1 10 && _)) = false
    rw [h, Bool.false_and, Bool.and_false]
  | _ => rfl
theorem numB_int {t : Th} {lo hi : Int} (h : numB t lo hi = true) : ∃ n, t = .int n := by
  cases t with
  | int n => exact ⟨n, rfl⟩
  | _ => cases h
theorem ok_cell {f : Addr} {fd : FuncData} (F : Fun K "is_cell" "is_cell" sis_cell f fd) (cis_row : Cal P w K mg base 1 "is_row" ["thing", "least", "most"] (spRowT K)) (cis_name : Cal P w K mg base 1 "is_name" ["thing"] (spNameT K)) (cis_number : Cal P w K mg base 2 "is_number" ["thing", "low", "high"] (spNumT K)) :
    FnOk P w K mg base CX0 3 f fd ["thing"] (spCell K) := by
  refine F.ok scis_cell (fun vs H Q E h => ?_) (fun cdv A outer s H vs Q E hr h => ?_)
  · obtain ⟨v, t, N, rfl, _⟩ := h
    rfl
  · obtain ⟨v, t, N, rfl, x, q⟩ := h
    refine ⟨_, (pss_cons (ps_if (PW.pt (pw_or (pt_not (pt_val (pe_call cis_row.G (hr.mono (by decide)) (by rfl) cis_row.g cis_row.kp cis_row.b .nil pass0 (pa_cons (pv 0) (pa_cons pe_int (pa_cons pe_int pa_nil)))))) (pw_or (pt_not (pt_val (pe_call cis_name.G (hr.mono (by decide)) (by rfl) cis_name.g cis_name.kp cis_name.b .nil pass0 (pa_cons (pe_ix ix_tup (pv 0) pe_int (fun _ _ => rfl)) pa_nil)))) (pw_or1 (pt_not (pt_val (pe_call cis_number.G hr (by rfl) cis_number.g cis_number.kp cis_number.b .nil pass0 (pa_cons (pe_ix ix_tup (pv 0) pe_int (fun _ _ => rfl)) (pa_cons pe_int (pa_cons pe_int pa_nil))))))))))
        (pss_one (ps_ret pe_bl))
        pss_nil)
      (pss_one (ps_ret (pe_call cis_number.G hr (by rfl) cis_number.g cis_number.kp cis_number.b .nil pass0 (pa_cons (pe_ix ix_tup (pv 0) pe_int (fun _ _ => rfl)) (pa_cons pe_int (pa_cons (pe_ix ix_tup (pv 0) pe_int (fun _ _ => rfl)) pa_nil))))))), ?_⟩
    refine ⟨_, rfl, v, t, N, 3, 3, rfl, x, _, rfl, ?_⟩
    cases hrow : rowB t 3 3 with
    | false =>
      have q := q H (Same.refl _)
      rw [cell_no hrow] at q
      exact iteT q
    | true =>
      obtain ⟨a, x0, x1, x2, t0, t1, t2, rfl, rfl, hx, y0, y1, y2⟩ := row3 x hrow
      refine iteF ⟨_, rfl, a, _, 0, x0, rfl, rfl, hx, at_of (j := 0) rfl rfl, x0, t0, N, rfl, y0, fun H2 s2 => ⟨_, rfl, ?_⟩⟩
      have q := q H2 s2
      cases hn : nameB t0 with
      | false =>
        rw [cell_name hn] at q
        exact iteT q
      | true =>
        refine iteF ⟨_, rfl, a, _, 1, x1, rfl, rfl, ssqt s2 hx, at_of (j := 1) rfl rfl, x1, t1, N, 1, 10, rfl, y1.same s2, _, rfl, ?_⟩
        cases hm : numB t1 1 10 with
        | false =>
          rw [cell_num hm] at q
          exact iteT q
        | true =>
          obtain ⟨n, rfl⟩ := numB_int hm
          obtain rfl := int_v y1
          have e : cellB (.tup [t0, .int n, t2]) = numB t2 0 n := by
            show (nameB t0 && (numB (.int n) 1 10 && numB t2 0 n)) = _
            rw [hn, hm, Bool.true_and, Bool.true_and]
          rw [e] at q
          exact iteF ⟨_, rfl, a, _, 2, x2, rfl, rfl, ssqt s2 hx, at_of (j := 2) rfl rfl, _, rfl, a, _, 1, .int n, rfl, rfl, ssqt s2 hx, at_of (j := 1) rfl rfl, x2, t2, N, 0, n, rfl, y2.same s2, q⟩
end

abbrev sis_command : Stmt := topS 36
theorem scis_command : FnScope ["thing", "cells", "test", "row"] ["thing", "cells"] (defScope sis_command) := ⟨rfl, rfl, rfl, by decide +kernel, rfl, by decide +kernel, by decide +kernel⟩
abbrev sis_ask : Stmt := topS 37
theorem scis_ask : FnScope ["thing", "cells", "commands", "keeps"] ["thing", "cells", "commands", "keeps"] (defScope sis_ask) := ⟨rfl, rfl, rfl, by decide +kernel, rfl, by decide +kernel, by decide +kernel⟩
abbrev sis_mark : Stmt := topS 38
theorem scis_mark : FnScope ["thing", "cells", "commands", "keeps", "row", "ask"] ["thing", "cells", "commands", "keeps"] (defScope sis_mark) := ⟨rfl, rfl, rfl, by decide +kernel, rfl, by decide +kernel, by decide +kernel⟩
abbrev sis_program : Stmt := topS 39
theorem scis_program : FnScope ["thing", "cells", "commands", "cell", "one"] ["thing"] (defScope sis_program) := ⟨rfl, rfl, rfl, by decide +kernel, rfl, by decide +kernel, by decide +kernel⟩
abbrev scheck : Stmt := topS 40
theorem sccheck : FnScope ["thing"] ["thing"] (defScope scheck) := ⟨rfl, rfl, rfl, by decide +kernel, rfl, by decide +kernel, by decide +kernel⟩
section
variable {P : Program} {w : World} {K : PySem.W.Frag} {mg : Str → Option Value} {base : Heap}
theorem command_eq {t0 : Th} {ts ss : List Th} {cs : List Str} : commandB (.tup [t0, .tup ts, .tup ss]) cs = (nameB t0 && (decide (ts.length ≤ 4) && (decide (ss.length ≤ 4) && (ts.all (testB · cs) && (ss.all (setRowB · cs) && decide (ss.map fstS).Nodup))))) := rfl
theorem command_name {t0 t1 t2 : Th} {cs : List Str} (h : nameB t0 = false) : commandB (.tup [t0, t1, t2]) cs = false := by
  cases t1 with
  | tup ts => cases t2 with
    | tup ss => rw [command_eq, h, Bool.false_and]
    | _ => rfl
  | _ => rfl
theorem row_le {ts : List Th} {n : Nat} : rowB (.tup ts) 0 n = decide (ts.length ≤ n) := by
  rw [row_eq, decide_eq_true (Int.natCast_nonneg _), Bool.true_and]
  by_cases h : ts.length ≤ n
  · rw [decide_eq_true h]
    exact decide_eq_true (by omega)
  · rw [decide_eq_false h]
    exact decide_eq_false (by omega)
theorem row_le4 {ts : List Th} : rowB (.tup ts) 0 4 = decide (ts.length ≤ 4) := row_le
theorem row_le8 {ts : List Th} : rowB (.tup ts) 0 8 = decide (ts.length ≤ 8) := row_le
theorem command_r1 {t0 t1 t2 : Th} {cs : List Str} (h : rowB t1 0 4 = false) : commandB (.tup [t0, t1, t2]) cs = false := by
  cases t1 with
  | tup ts => cases t2 with
    | tup ss =>
      rw [row_le4] at h
      rw [command_eq, h, Bool.false_and, Bool.and_false]
    | _ => rfl
  | _ => rfl
theorem command_r2 {t0 t1 t2 : Th} {cs : List Str} (h : rowB t2 0 4 = false) : commandB (.tup [t0, t1, t2]) cs = false := by
  cases t1 with
  | tup ts => cases t2 with
    | tup ss =>
      rw [row_le4] at h
      rw [command_eq, h, Bool.false_and, Bool.and_false, Bool.and_false]
    | _ => rfl
  | _ => rfl
theorem setRow_fst {t : Th} {cs : List Str} (h : setRowB t cs = true) : ∃ z r, t = .tup [.str z, r] := by
  unfold setRowB at h
  split at h
  · rw [Bool.and_eq_true] at h
    obtain ⟨z, rfl⟩ := ofB_str h.1
    exact ⟨z, _, rfl⟩
  · cases h
theorem fsts_map {ts : List Th} : ts.map (fun t => V.str (fstS t)) = (ts.map fstS).map V.str := by
  rw [List.map_map]
  rfl
/-- the first part of a thing that has one -/
theorem fst_at {N : Nat} {H : Hp} {v : V} {z : Str} {r : List Th} (x : TAt N K H v (.tup (.str z :: r))) : ∃ a xs, v = .ref a ∧ SqT K H a (.str z :: xs) := by
  cases x with
  | tup h l t => cases t with
    | cons y ys =>
      obtain rfl := str_v y
      exact ⟨_, _, rfl, h⟩
def spCommand (K : PySem.W.Frag) : Sp := fun vs H Q _ => ∃ (v : V) (t : Th) (N : Nat) (l : Addr) (zs : List Str), vs = [v, .ref l] ∧ TAt N K H v t ∧ SqL K H l (zs.map V.str) ∧ ∀ H', Same H H' → Q (.bl (commandB t zs)) H'
theorem ok_command {f : Addr} {fd : FuncData} (F : Fun K "is_command" "is_command" sis_command f fd) (T : Bi mg) (cis_row : Cal P w K mg base 1 "is_row" ["thing", "least", "most"] (spRowT K)) (cis_name : Cal P w K mg base 1 "is_name" ["thing"] (spNameT K))
    (cis_test : Cal P w K mg base 4 "is_test" ["thing", "cells"] (spTest K)) (cis_set_row : Cal P w K mg base 4 "is_set_row" ["thing", "cells"] (spSetRow K)) (care_unlike : Cal P w K mg base 1 "are_unlike" ["names"] (spUnlike K)) :
    FnOk P w K mg base CX0 5 f fd ["thing", "cells"] (spCommand K) := by
  refine F.ok scis_command (fun vs H Q E h => ?_) (fun cdv A outer s H vs Q E hr h => ?_)
  · obtain ⟨v, t, N, l, zs, rfl, _⟩ := h
    rfl
  · obtain ⟨v, t, N, l, zs, rfl, x, hl, q⟩ := h
    refine ⟨_, (pss_cons (ps_if (PW.pt (pw_or (pt_not (pt_val (pe_call cis_row.G (hr.mono (by decide)) (by rfl) cis_row.g cis_row.kp cis_row.b .nil pass0 (pa_cons (pv 0) (pa_cons pe_int (pa_cons pe_int pa_nil)))))) (pw_or1 (pt_not (pt_val (pe_call cis_name.G (hr.mono (by decide)) (by rfl) cis_name.g cis_name.kp cis_name.b .nil pass0 (pa_cons (pe_ix ix_tup (pv 0) pe_int (fun _ _ => rfl)) pa_nil)))))))
        (pss_one (ps_ret pe_bl))
        pss_nil)
      (pss_cons (ps_if (PW.pt (pw_or (pt_not (pt_val (pe_call cis_row.G (hr.mono (by decide)) (by rfl) cis_row.g cis_row.kp cis_row.b .nil pass0 (pa_cons (pe_ix ix_tup (pv 0) pe_int (fun _ _ => rfl)) (pa_cons pe_int (pa_cons pe_int pa_nil)))))) (pw_or1 (pt_not (pt_val (pe_call cis_row.G (hr.mono (by decide)) (by rfl) cis_row.g cis_row.kp cis_row.b .nil pass0 (pa_cons (pe_ix ix_tup (pv 0) pe_int (fun _ _ => rfl)) (pa_cons pe_int (pa_cons pe_int pa_nil)))))))))
        (pss_one (ps_ret pe_bl))
        pss_nil)
      (pss_cons (ps_if (pt_not (pt_val (pe_callB (cr_all rfl) (by rfl) T.all (by decide +kernel) (pa_cons (pe_lc (own := [("test", 2)]) (g := gName 2) rfl scis_command.nd (pi_tup (pe_ix ix_tup (pv 0) pe_int (fun _ _ => rfl))) (blkOk_by (own := [("test", 2)]) (N := ["thing", "cells", "test", "row"]) (sc := defScope sis_command) (by decide +kernel)) (fun _ _ _ _ _ => (pg_name (i := 2) scis_command.nd rfl (.inl rfl))) (fun _ _ _ _ _ => pts_nil) (fun _ _ _ _ _ => (pe_call cis_test.G hr (by rfl) cis_test.g cis_test.kp cis_test.b .nil pass0 (pa_cons (pv 2) (pa_cons (pv 1) pa_nil))))) pa_nil))))
        (pss_one (ps_ret pe_bl))
        pss_nil)
      (pss_one (ps_ret (pe_and (pe_callB (cr_all rfl) (by rfl) T.all (by decide +kernel) (pa_cons (pe_lc (own := [("row", 3)]) (g := gName 3) rfl scis_command.nd (pi_tup (pe_ix ix_tup (pv 0) pe_int (fun _ _ => rfl))) (blkOk_by (own := [("row", 3)]) (N := ["thing", "cells", "test", "row"]) (sc := defScope sis_command) (by decide +kernel)) (fun _ _ _ _ _ => (pg_name (i := 3) scis_command.nd rfl (.inl rfl))) (fun _ _ _ _ _ => pts_nil) (fun _ _ _ _ _ => (pe_call cis_set_row.G hr (by rfl) cis_set_row.g cis_set_row.kp cis_set_row.b .nil pass0 (pa_cons (pv 3) (pa_cons (pv 1) pa_nil))))) pa_nil)) (pe_one (pe_call care_unlike.G (hr.mono (by decide)) (by rfl) care_unlike.g care_unlike.kp care_unlike.b .nil pass0 (pa_cons (pe_lc (own := [("row", 3)]) (g := gName 3) rfl scis_command.nd (pi_tup (pe_ix ix_tup (pv 0) pe_int (fun _ _ => rfl))) (blkOk_by (own := [("row", 3)]) (N := ["thing", "cells", "test", "row"]) (sc := defScope sis_command) (by decide +kernel)) (fun _ _ _ _ _ => (pg_name (i := 3) scis_command.nd rfl (.inl rfl))) (fun _ _ _ _ _ => pts_nil) (fun _ _ _ _ _ => (pe_ix (ixT K) (pv 3) pe_int (fun _ _ => rfl)))) pa_nil))))))))), ?_⟩
    refine ⟨_, rfl, v, t, N, 3, 3, rfl, x, _, rfl, ?_⟩
    cases hrow : rowB t 3 3 with
    | false =>
      have q := q H (Same.refl _)
      rw [command_no hrow] at q
      exact iteT q
    | true =>
      obtain ⟨a, x0, x1, x2, t0, t1, t2, rfl, rfl, hx, y0, y1, y2⟩ := row3 x hrow
      refine iteF ⟨_, rfl, a, _, 0, x0, rfl, rfl, hx, at_of (j := 0) rfl rfl, x0, t0, N, rfl, y0, fun H2 s2 => ⟨_, rfl, ?_⟩⟩
      cases hn : nameB t0 with
      | false =>
        have q := q H2 s2
        rw [command_name hn] at q
        exact iteT q
      | true =>
        have y1 := y1.same s2
        have y2 := y2.same s2
        refine iteF ⟨_, rfl, a, _, 1, x1, rfl, rfl, ssqt s2 hx, at_of (j := 1) rfl rfl, x1, t1, N, 0, 4, rfl, y1, _, rfl, ?_⟩
        cases h1 : rowB t1 0 4 with
        | false =>
          have q := q H2 s2
          rw [command_r1 h1] at q
          exact iteT q
        | true =>
          refine iteF ⟨_, rfl, a, _, 2, x2, rfl, rfl, ssqt s2 hx, at_of (j := 2) rfl rfl, x2, t2, N, 0, 4, rfl, y2, _, rfl, ?_⟩
          cases h2 : rowB t2 0 4 with
          | false =>
            have q := q H2 s2
            rw [command_r2 h2] at q
            exact iteT q
          | true =>
            obtain ⟨a1, xs1, ts, rfl, rfl, hx1, hall1, l10, l11⟩ := row_tup y1 h1
            obtain ⟨a2, xs2, ss, rfl, rfl, hx2, hall2, l20, l21⟩ := row_tup y2 h2
            rw [row_le4] at h1 h2
            have e := command_eq (t0 := t0) (ts := ts) (ss := ss) (cs := zs)
            rw [hn, h1, h2, Bool.true_and, Bool.true_and, Bool.true_and] at e
            rw [e] at q
            refine iteF ⟨_, rfl, a, _, 1, .ref a1, rfl, rfl, ssqt s2 hx, at_of (j := 1) rfl rfl, a1, rfl, ⟨_, hx1⟩, fun D hD => lc_thT (fun t => .bl (testB t zs)) hx1 hall1 hD (by omega) (fun _ => rfl) (fun y t H3 _ yt s3 N1 N2 k1 => ?_) (fun H3 s3 hD3 => ?_)⟩
            · exact ⟨_, rfl, _, rfl, y, t, N, l, zs, rfl, yt, s3.seq (s2.seq hl), k1⟩
            · rw [all_bl (testB · zs)] at hD3
              refine ⟨D, _, rfl, SqL.of hD3, ?_⟩
              rw [all_id (testB · zs)]
              have s23 := s2.trans s3
              refine ⟨_, rfl, ?_⟩
              cases ht : ts.all (testB · zs) with
              | false =>
                have q := q H3 s23
                rw [ht, Bool.false_and] at q
                exact iteT q
              | true =>
                rw [ht, Bool.true_and] at q
                refine iteF ⟨_, rfl, a, _, 2, .ref a2, rfl, rfl, ssqt s23 hx, at_of (j := 2) rfl rfl, a2, rfl, ⟨_, ssqt s3 hx2⟩, fun D2 hD2 => lc_thT (fun t => .bl (setRowB t zs)) (ssqt s3 hx2) (TAll.keep (Nat.le_refl _) (fun _ _ h => ssqt s3 h) (fun _ xs h => ⟨xs, s3 _ _ h⟩) (fun _ _ h => s3 _ _ h) hall2) hD2 (by omega) (fun _ => rfl) (fun y t H4 _ yt s4 N1 N2 k1 => ?_) (fun H4 s4 hD4 => ?_)⟩
                · exact ⟨_, rfl, _, rfl, y, t, N, l, zs, rfl, yt, s4.seq (s23.seq hl), k1⟩
                · rw [all_bl (setRowB · zs)] at hD4
                  refine ⟨D2, _, rfl, SqL.of hD4, ?_⟩
                  rw [all_id (setRowB · zs)]
                  have s24 := s23.trans s4
                  refine ⟨_, rfl, ?_⟩
                  cases hs : ss.all (setRowB · zs) with
                  | false =>
                    have q := q H4 s24
                    rw [hs, Bool.false_and] at q
                    exact iteF q
                  | true =>
                    rw [hs, Bool.true_and] at q
                    have s34 := s3.trans s4
                    refine iteT ⟨_, rfl, a, _, 2, .ref a2, rfl, rfl, ssqt s24 hx, at_of (j := 2) rfl rfl, a2, rfl, ⟨_, ssqt s34 hx2⟩, fun D3 hD3 => lc_thT (fun t => .str (fstS t)) (ssqt s34 hx2) (TAll.keep (Nat.le_refl _) (fun _ _ h => ssqt s34 h) (fun _ xs h => ⟨xs, s34 _ _ h⟩) (fun _ _ h => s34 _ _ h) hall2) hD3 (by omega) (fun _ => rfl) (fun y t H5 mt yt s5 N1 N2 k1 => ?_) (fun H5 s5 hD5 => ?_)⟩
                    · obtain ⟨z, r, rfl⟩ := setRow_fst (List.all_eq_true.mp hs t mt)
                      obtain ⟨b, ys, rfl, hb⟩ := fst_at yt
                      exact ⟨_, rfl, b, _, 0, .str z, rfl, rfl, hb, at_of (j := 0) rfl rfl, k1 H5 (Same.refl _)⟩
                    · rw [fsts_map] at hD5
                      exact ⟨D3, _, rfl, SqL.of hD5, by rw [List.length_map, ← hall2.len]; omega, fun H6 s6 => q H6 ((s24.trans s5).trans s6)⟩
def spAsk (K : PySem.W.Frag) : Sp := fun vs H Q _ => ∃ (v : V) (t : Th) (N : Nat) (l m : Addr) (zs ys : List Str) (k : Bool), vs = [v, .ref l, .ref m, .bl k] ∧ TAt N K H v t ∧ SqL K H l (zs.map V.str) ∧ SqL K H m (ys.map V.str) ∧ ∀ H', Same H H' → Q (.bl (askB t zs ys k)) H'
theorem ask_nostr {t0 t1 : Th} {zs ys : List Str} {k : Bool} (h : isTh "str" t0 = false) : askB (.tup [t0, t1]) zs ys k = false := by
  cases t0 with
  | str z => simp [isTh, tyn] at h
  | _ => rfl
theorem ask_eq {z : Str} {t1 : Th} {zs ys : List Str} {k : Bool} : askB (.tup [.str z, t1]) zs ys k = (decide (z ∈ asksL) && (ofB t1 ys && (k || decide (z = Str.ofString "can")))) := rfl
theorem ok_ask {f : Addr} {fd : FuncData} (F : Fun K "is_ask" "is_ask" sis_ask f fd) (T : Bi mg) (W : Wp K mg) (cis_row : Cal P w K mg base 1 "is_row" ["thing", "least", "most"] (spRowT K)) (cis_of : Cal P w K mg base 2 "is_of" ["thing", "names"] (spOf K))
    (cis_test : Cal P w K mg base 4 "is_test" ["thing", "cells"] (spTest K)) : FnOk P w K mg base CX0 5 f fd ["thing", "cells", "commands", "keeps"] (spAsk K) := by
  refine F.ok scis_ask (fun vs H Q E h => ?_) (fun cdv A outer s H vs Q E hr h => ?_)
  · obtain ⟨v, t, N, l, m, zs, ys, k, rfl, _⟩ := h
    rfl
  · obtain ⟨v, t, N, l, m, zs, ys, k, rfl, x, hl, hm, q⟩ := h
    refine ⟨_, (pss_cons (ps_if (pt_not (pt_val (pe_call cis_row.G (hr.mono (by decide)) (by rfl) cis_row.g cis_row.kp cis_row.b .nil pass0 (pa_cons (pv 0) (pa_cons pe_int (pa_cons pe_int pa_nil))))))
        (pss_one (ps_ret (pe_call cis_test.G hr (by rfl) cis_test.g cis_test.kp cis_test.b .nil pass0 (pa_cons (pv 0) (pa_cons (pv 1) pa_nil)))))
        pss_nil)
      (pss_cons (ps_if (PW.pt (pw_or (pt_not (pt_val (pe_callB call_isT (by rfl) T.isinstance (by decide +kernel) (pa_cons (pe_ix ix_tup (pv 0) pe_int (fun _ _ => rfl)) (pa_cons (pe_bltn (v := .ty "str") (u := .type "str") (by rfl) T.str (by decide +kernel) rfl) pa_nil))))) (pw_or (pt_cmpR op_notIn_seq (pe_ix ix_tup (pv 0) pe_int (fun _ _ => rfl)) (pe_glob rfl W.gASKS W.rASKS) (by rfl)) (pw_or1 (pt_not (pt_val (pe_call cis_of.G (hr.mono (by decide)) (by rfl) cis_of.g cis_of.kp cis_of.b .nil pass0 (pa_cons (pe_ix ix_tup (pv 0) pe_int (fun _ _ => rfl)) (pa_cons (pv 2) pa_nil)))))))))
        (pss_one (ps_ret pe_bl))
        pss_nil)
      (pss_one (ps_ret (pe_or (pv 3) (pe_one (pe_cmpR op_eq (pe_ix ix_tup (pv 0) pe_int (fun _ _ => rfl)) pe_str (nomark _)))))))), ?_⟩
    refine ⟨_, rfl, v, t, N, 2, 2, rfl, x, _, rfl, ?_⟩
    cases hrow : rowB t 2 2 with
    | false =>
      rw [ask_no hrow] at q
      exact iteT ⟨_, rfl, _, rfl, v, t, N, l, zs, rfl, x, hl, q⟩
    | true =>
      obtain ⟨a, x0, x1, t0, t1, rfl, rfl, hx, y0, y1⟩ := row2 x hrow
      refine iteF ⟨_, rfl, a, _, 0, x0, rfl, rfl, hx, at_of (j := 0) rfl rfl, x0, t0, N, "str", rfl, y0, by simp [tyL], _, rfl, ?_⟩
      rcases str_or y0 with ⟨z, rfl, rfl, _, _⟩ | ⟨h1, h2⟩
      · rw [show isTh "str" (.str z) = true by simp [isTh, tyn]]
        rw [ask_eq] at q
        refine iteF ⟨_, rfl, a, _, 0, .str z, rfl, rfl, hx, at_of (j := 0) rfl rfl, _, _, rfl, .inr (W.sA _), rfl, flat_str _, _, rfl, ?_⟩
        rw [inV_str]
        by_cases hz : z ∈ asksL
        · rw [decide_eq_true hz, Bool.true_and] at q
          rw [decide_eq_true hz]
          refine iteF ⟨_, rfl, a, _, 1, x1, rfl, rfl, hx, at_of (j := 1) rfl rfl, _, rfl, x1, t1, N, m, ys, rfl, y1, hm, fun H2 s2 => ⟨_, rfl, ?_⟩⟩
          have q := q H2 s2
          cases ho : ofB t1 ys with
          | false =>
            rw [ho, Bool.false_and] at q
            exact iteT q
          | true =>
            rw [ho, Bool.true_and] at q
            cases k with
            | true => exact iteF ⟨_, rfl, true, rfl, iteT q⟩
            | false =>
              rw [Bool.false_or] at q
              refine iteF ⟨_, rfl, false, rfl, iteF ⟨_, rfl, a, _, 0, .str z, rfl, rfl, ssqt s2 hx, at_of (j := 0) rfl rfl, rfl, ?_⟩⟩
              rw [dec_str]
              exact q
        · have q := q H (Same.refl _)
          rw [decide_eq_false hz, Bool.false_and] at q
          rw [decide_eq_false hz]
          exact iteT q
      · have q := q H (Same.refl _)
        rw [ask_nostr h1] at q
        rw [h1]
        exact iteT q
def spMark (K : PySem.W.Frag) : Sp := fun vs H Q _ => ∃ (v : V) (t : Th) (N : Nat) (l m : Addr) (zs ys : List Str) (k : Bool), vs = [v, .ref l, .ref m, .bl k] ∧ TAt N K H v t ∧ SqL K H l (zs.map V.str) ∧ SqL K H m (ys.map V.str) ∧ ∀ H', Same H H' → Q (.bl (markB t zs ys k)) H'
theorem mark_eq {t0 : Th} {rows : List Th} {zs ys : List Str} {k : Bool} : markB (.tup [t0, .tup rows]) zs ys k = (nameB t0 && (decide (rows.length ≤ 4) && rows.all (askRowB · zs ys k))) := rfl
theorem mark_name {t0 t1 : Th} {zs ys : List Str} {k : Bool} (h : nameB t0 = false) : markB (.tup [t0, t1]) zs ys k = false := by
  cases t1 with
  | tup ts => rw [mark_eq, h, Bool.false_and]
  | _ => rfl
theorem mark_row {t0 t1 : Th} {zs ys : List Str} {k : Bool} (h : rowB t1 0 4 = false) : markB (.tup [t0, t1]) zs ys k = false := by
  cases t1 with
  | tup ts =>
    rw [row_le4] at h
    rw [mark_eq, h, Bool.false_and, Bool.and_false]
  | _ => rfl
theorem askRow_no {t : Th} {zs ys : List Str} {k : Bool} (h : rowB t 0 4 = false) : askRowB t zs ys k = false := by
  cases t with
  | tup ts =>
    rw [row_le4] at h
    show (decide (ts.length ≤ 4) && _) = false
    rw [h, Bool.false_and]
  | _ => rfl
theorem all_at {p : Th → Bool} {ts : List Th} {i : Nat} {t : Th} (h : ts[i]? = some t) : (ts.drop i).all p = (p t && (ts.drop (i + 1)).all p) := by
  obtain ⟨hi, rfl⟩ := List.getElem?_eq_some_iff.mp h
  rw [List.drop_eq_getElem_cons hi]
  rfl
theorem TAll.same {N : Nat} {H H' : Hp} {vs : List V} {ts : List Th} (s : Same H H') (x : TAll N K H vs ts) : TAll N K H' vs ts := TAll.keep (Nat.le_refl _) (fun _ _ h => ssqt s h) (fun _ xs h => ⟨xs, s _ _ h⟩) (fun _ _ h => s _ _ h) x
theorem ok_mark {f : Addr} {fd : FuncData} (F : Fun K "is_mark" "is_mark" sis_mark f fd) (T : Bi mg) (cis_row : Cal P w K mg base 1 "is_row" ["thing", "least", "most"] (spRowT K)) (cis_name : Cal P w K mg base 1 "is_name" ["thing"] (spNameT K))
    (cis_ask : Cal P w K mg base 5 "is_ask" ["thing", "cells", "commands", "keeps"] (spAsk K)) : FnOk P w K mg base CX0 6 f fd ["thing", "cells", "commands", "keeps"] (spMark K) := by
  refine F.ok scis_mark (fun vs H Q E h => ?_) (fun cdv A outer s H vs Q E hr h => ?_)
  · obtain ⟨v, t, N, l, m, zs, ys, k, rfl, _⟩ := h
    rfl
  · obtain ⟨v, t, N, l, m, zs, ys, k, rfl, x, hl, hm, q⟩ := h
    refine ⟨_, (pss_cons (ps_if (PW.pt (pw_or (pt_not (pt_val (pe_call cis_row.G (hr.mono (by decide)) (by rfl) cis_row.g cis_row.kp cis_row.b .nil pass0 (pa_cons (pv 0) (pa_cons pe_int (pa_cons pe_int pa_nil)))))) (pw_or (pt_not (pt_val (pe_call cis_name.G (hr.mono (by decide)) (by rfl) cis_name.g cis_name.kp cis_name.b .nil pass0 (pa_cons (pe_ix ix_tup (pv 0) pe_int (fun _ _ => rfl)) pa_nil)))) (pw_or1 (pt_not (pt_val (pe_call cis_row.G (hr.mono (by decide)) (by rfl) cis_row.g cis_row.kp cis_row.b .nil pass0 (pa_cons (pe_ix ix_tup (pv 0) pe_int (fun _ _ => rfl)) (pa_cons pe_int (pa_cons pe_int pa_nil))))))))))
        (pss_one (ps_ret pe_bl))
        pss_nil)
      (pss_cons (ps_for PassesOwn.never rfl (pi_tup (pe_ix ix_tup (pv 0) pe_int (fun _ _ => rfl))) (pg_name (i := 4) scis_mark.nd rfl (.inl rfl))
        (pss_one (ps_if (PW.pt (pw_or (pt_not (pt_val (pe_call cis_row.G (hr.mono (by decide)) (by rfl) cis_row.g cis_row.kp cis_row.b .nil pass0 (pa_cons (pv 4) (pa_cons pe_int (pa_cons pe_int pa_nil)))))) (pw_or1 (pt_not (pt_val (pe_callB (cr_all rfl) (by rfl) T.all (by decide +kernel) (pa_cons (pe_lc (own := [("ask", 5)]) (g := gName 5) rfl scis_mark.nd (pi_tup (pv 4)) (blkOk_by (own := [("ask", 5)]) (N := ["thing", "cells", "commands", "keeps", "row", "ask"]) (sc := defScope sis_mark) (by decide +kernel)) (fun _ _ _ _ _ => (pg_name (i := 5) scis_mark.nd rfl (.inl rfl))) (fun _ _ _ _ _ => pts_nil) (fun _ _ _ _ _ => (pe_call cis_ask.G hr (by rfl) cis_ask.g cis_ask.kp cis_ask.b .nil pass0 (pa_cons (pv 5) (pa_cons (pv 1) (pa_cons (pv 2) (pa_cons (pv 3) pa_nil))))))) pa_nil)))))))
          (pss_one (ps_ret pe_bl))
          pss_nil)))
      (pss_one (ps_ret pe_bl)))), ?_⟩
    refine ⟨_, rfl, v, t, N, 2, 2, rfl, x, _, rfl, ?_⟩
    cases hrow : rowB t 2 2 with
    | false =>
      have q := q H (Same.refl _)
      rw [mark_no hrow] at q
      exact iteT q
    | true =>
      obtain ⟨a, x0, x1, t0, t1, rfl, rfl, hx, y0, y1⟩ := row2 x hrow
      refine iteF ⟨_, rfl, a, _, 0, x0, rfl, rfl, hx, at_of (j := 0) rfl rfl, x0, t0, N, rfl, y0, fun H2 s2 => ⟨_, rfl, ?_⟩⟩
      cases hn : nameB t0 with
      | false =>
        have q := q H2 s2
        rw [mark_name hn] at q
        exact iteT q
      | true =>
        refine iteF ⟨_, rfl, a, _, 1, x1, rfl, rfl, ssqt s2 hx, at_of (j := 1) rfl rfl, x1, t1, N, 0, 4, rfl, y1.same s2, _, rfl, ?_⟩
        cases h1 : rowB t1 0 4 with
        | false =>
          have q := q H2 s2
          rw [mark_row h1] at q
          exact iteT q
        | true =>
          obtain ⟨b, xs, rows, rfl, rfl, hb, hall, l0, l1⟩ := row_tup y1 h1
          rw [row_le4] at h1
          rw [mark_eq, hn, h1, Bool.true_and, Bool.true_and] at q
          refine iteF ⟨_, rfl, a, _, 1, .ref b, rfl, rfl, ssqt s2 hx, at_of (j := 1) rfl rfl, b, rfl, ⟨_, ssqt s2 hb⟩, for_tup (K := K) (a := b) (xs := xs) (fun i σ H' => ∃ y : Option V, σ = [some (.ref a), some (.ref l), some (.ref m), some (.bl k), y, none] ∧ Same H H' ∧ rows.all (askRowB · zs ys k) = (rows.drop i).all (askRowB · zs ys k)) ⟨none, rfl, s2, rfl⟩ (fun i σ H' _ ⟨_, _, s1, _⟩ => ssqt s1 hb) ?_ ?_⟩
          · rintro i y σ H1 hi ⟨z, rfl, s1, e⟩
            obtain ⟨t1, ht1, x1⟩ := hall.get hi
            rw [all_at ht1] at e
            have x1 := x1.same s1
            refine ⟨_, rfl, y, t1, N, 0, 4, rfl, x1, _, rfl, ?_⟩
            cases h4 : rowB t1 0 4 with
            | false =>
              have q := q H1 s1
              rw [e, askRow_no h4, Bool.false_and] at q
              exact iteT (iteT q)
            | true =>
              obtain ⟨c, xs1, as, rfl, rfl, hc, hall1, l10, l11⟩ := row_tup x1 h4
              rw [row_le4] at h4
              refine iteF ⟨_, rfl, c, rfl, ⟨_, hc⟩, fun D hD => lc_thT (fun t => .bl (askB t zs ys k)) hc hall1 hD (by omega) (fun _ => rfl) (fun y t H3 _ yt s3 N1 N2 k1 => ?_) (fun H3 s3 hD3 => ?_)⟩
              · exact ⟨_, rfl, _, rfl, _, rfl, _, rfl, y, t, N, l, m, zs, ys, k, rfl, yt, s3.seq (s1.seq hl), s3.seq (s1.seq hm), k1⟩
              · rw [all_bl (askB · zs ys k)] at hD3
                refine ⟨D, _, rfl, SqL.of hD3, ?_⟩
                rw [all_id (askB · zs ys k)]
                have e5 : askRowB (.tup as) zs ys k = as.all (askB · zs ys k) := by
                  show (decide (as.length ≤ 4) && as.all (askB · zs ys k)) = _
                  rw [h4, Bool.true_and]
                rw [e5] at e
                have s13 := s1.trans s3
                refine ⟨_, rfl, ?_⟩
                cases ha : as.all (askB · zs ys k) with
                | false =>
                  have q := q H3 s13
                  rw [e, ha, Bool.false_and] at q
                  exact iteT q
                | true =>
                  rw [ha, Bool.true_and] at e
                  exact iteF ⟨_, rfl, s13, e⟩
          · rintro σ H1 ⟨y, rfl, s1, e⟩
            rw [hall.len, List.drop_of_length_le (Nat.le_refl _)] at e
            have q := q H1 s1
            rw [e] at q
            exact q
theorem cell_fst {t : Th} (h : cellB t = true) : ∃ z r, t = .tup (.str z :: r) := by
  unfold cellB at h
  split at h
  · rw [Bool.and_eq_true] at h
    obtain ⟨z, rfl⟩ := nameB_str h.1
    exact ⟨z, _, rfl⟩
  · cases h
theorem command_fst {t : Th} {cs : List Str} (h : commandB t cs = true) : ∃ z r, t = .tup (.str z :: r) := by
  unfold commandB at h
  split at h
  · rw [Bool.and_eq_true] at h
    obtain ⟨z, rfl⟩ := nameB_str h.1
    exact ⟨z, _, rfl⟩
  · cases h
theorem mark_fst {t : Th} {cs ms : List Str} {k : Bool} (h : markB t cs ms k = true) : ∃ z r, t = .tup (.str z :: r) := by
  unfold markB at h
  split at h
  · rw [Bool.and_eq_true] at h
    obtain ⟨z, rfl⟩ := nameB_str h.1
    exact ⟨z, _, rfl⟩
  · cases h
theorem prog_eq {cs ms ks : List Th} {k : Bool} : progB (.tup [.tup cs, .tup ms, .tup ks, .bl k]) = (decide (1 ≤ cs.length) && (decide (cs.length ≤ 4) && (cs.all cellB && (decide (ms.length ≤ 8) && (ms.all (commandB · (cs.map fstS)) && (decide (ks.length ≤ 8) && (ks.all (markB · (cs.map fstS) (ms.map fstS) k) &&
      (decide (cs.map fstS).Nodup && (decide (ms.map fstS).Nodup && decide (ks.map fstS).Nodup))))))))) := rfl
theorem prog_r0 {t0 t1 t2 t3 : Th} (h : rowB t0 1 4 = false) : progB (.tup [t0, t1, t2, t3]) = false := by
  cases t0 with
  | tup cs => cases t1 with
    | tup ms => cases t2 with
      | tup ks => cases t3 with
        | bl k =>
          rw [row_eq] at h
          rw [prog_eq, ← Bool.and_assoc]
          have : (decide (1 ≤ cs.length) && decide (cs.length ≤ 4)) = false := by
            rw [← h]
            congr 1 <;> (apply decide_eq_decide.mpr; omega)
          rw [this, Bool.false_and]
        | _ => rfl
      | _ => rfl
    | _ => rfl
  | _ => rfl
theorem prog_r1 {t0 t1 t2 t3 : Th} (h : rowB t1 0 8 = false) : progB (.tup [t0, t1, t2, t3]) = false := by
  cases t0 with
  | tup cs => cases t1 with
    | tup ms => cases t2 with
      | tup ks => cases t3 with
        | bl k =>
          rw [row_le8] at h
          rw [prog_eq, h]
          simp only [Bool.false_and, Bool.and_false]
        | _ => rfl
      | _ => rfl
    | _ => rfl
  | _ => rfl
theorem prog_r2 {t0 t1 t2 t3 : Th} (h : rowB t2 0 8 = false) : progB (.tup [t0, t1, t2, t3]) = false := by
  cases t0 with
  | tup cs => cases t1 with
    | tup ms => cases t2 with
      | tup ks => cases t3 with
        | bl k =>
          rw [row_le8] at h
          rw [prog_eq, h]
          simp only [Bool.false_and, Bool.and_false]
        | _ => rfl
      | _ => rfl
    | _ => rfl
  | _ => rfl
theorem prog_r3 {t0 t1 t2 t3 : Th} (h : isTh "bool" t3 = false) : progB (.tup [t0, t1, t2, t3]) = false := by
  cases t3 with
  | bl k => simp [isTh, tyn] at h
  | _ => cases t0 with
    | tup cs => cases t1 with
      | tup ms => cases t2 <;> rfl
      | _ => rfl
    | _ => rfl
theorem prog_cells {cs : List Th} {t1 t2 t3 : Th} (h : cs.all cellB = false) : progB (.tup [.tup cs, t1, t2, t3]) = false := by
  cases t1 with
  | tup ms => cases t2 with
    | tup ks => cases t3 with
      | bl k =>
        rw [prog_eq, h]
        simp only [Bool.false_and, Bool.and_false]
      | _ => rfl
    | _ => rfl
  | _ => rfl
theorem prog_commands {cs ms : List Th} {t2 t3 : Th} (h : ms.all (commandB · (cs.map fstS)) = false) : progB (.tup [.tup cs, .tup ms, t2, t3]) = false := by
  cases t2 with
  | tup ks => cases t3 with
    | bl k =>
      rw [prog_eq, h]
      simp only [Bool.false_and, Bool.and_false]
    | _ => rfl
  | _ => rfl
theorem bool_or {N : Nat} {H : Hp} {v : V} {t : Th} (x : TAt N K H v t) : (∃ b, v = .bl b ∧ t = .bl b) ∨ isTh "bool" t = false := by
  cases x with
  | bl b => exact .inl ⟨b, rfl, rfl⟩
  | _ => exact .inr (by simp [isTh, tyn])
def spProg (K : PySem.W.Frag) : Sp := fun vs H Q _ => ∃ (v : V) (t : Th) (N : Nat), vs = [v] ∧ TAt N K H v t ∧ ∀ H', Same H H' → Q (.bl (progB t)) H'
theorem ok_prog {f : Addr} {fd : FuncData} (F : Fun K "is_program" "is_program" sis_program f fd) (T : Bi mg) (cis_row : Cal P w K mg base 1 "is_row" ["thing", "least", "most"] (spRowT K)) (cis_cell : Cal P w K mg base 3 "is_cell" ["thing"] (spCell K))
    (cis_command : Cal P w K mg base 5 "is_command" ["thing", "cells"] (spCommand K)) (cis_mark : Cal P w K mg base 6 "is_mark" ["thing", "cells", "commands", "keeps"] (spMark K)) (care_unlike : Cal P w K mg base 1 "are_unlike" ["names"] (spUnlike K)) :
    FnOk P w K mg base CX0 7 f fd ["thing"] (spProg K) := by
  refine F.ok scis_program (fun vs H Q E h => ?_) (fun cdv A outer s H vs Q E hr h => ?_)
  · obtain ⟨v, t, N, rfl, _⟩ := h
    rfl
  · obtain ⟨v, t, N, rfl, x, q⟩ := h
    refine ⟨_, (pss_cons (ps_if (PW.pt (pw_or (pt_not (pt_val (pe_call cis_row.G (hr.mono (by decide)) (by rfl) cis_row.g cis_row.kp cis_row.b .nil pass0 (pa_cons (pv 0) (pa_cons pe_int (pa_cons pe_int pa_nil)))))) (pw_or (pt_not (pt_val (pe_call cis_row.G (hr.mono (by decide)) (by rfl) cis_row.g cis_row.kp cis_row.b .nil pass0 (pa_cons (pe_ix ix_tup (pv 0) pe_int (fun _ _ => rfl)) (pa_cons pe_int (pa_cons pe_int pa_nil)))))) (pw_or1 (pt_not (pt_val (pe_callB (cr_all rfl) (by rfl) T.all (by decide +kernel) (pa_cons (pe_lc (own := [("cell", 3)]) (g := gName 3) rfl scis_program.nd (pi_tup (pe_ix ix_tup (pv 0) pe_int (fun _ _ => rfl))) (blkOk_by (own := [("cell", 3)]) (N := ["thing", "cells", "commands", "cell", "one"]) (sc := defScope sis_program) (by decide +kernel)) (fun _ _ _ _ _ => (pg_name (i := 3) scis_program.nd rfl (.inl rfl))) (fun _ _ _ _ _ => pts_nil) (fun _ _ _ _ _ => (pe_call cis_cell.G (hr.mono (by decide)) (by rfl) cis_cell.g cis_cell.kp cis_cell.b .nil pass0 (pa_cons (pv 3) pa_nil)))) pa_nil))))))))
        (pss_one (ps_ret pe_bl))
        pss_nil)
      (pss_cons (ps_set (i := 1) scis_program.nd rfl (.inr rfl) (pe_lc (own := [("cell", 3)]) (g := gName 3) rfl scis_program.nd (pi_tup (pe_ix ix_tup (pv 0) pe_int (fun _ _ => rfl))) (blkOk_by (own := [("cell", 3)]) (N := ["thing", "cells", "commands", "cell", "one"]) (sc := defScope sis_program) (by decide +kernel)) (fun _ _ _ _ _ => (pg_name (i := 3) scis_program.nd rfl (.inl rfl))) (fun _ _ _ _ _ => pts_nil) (fun _ _ _ _ _ => (pe_ix (ixT K) (pv 3) pe_int (fun _ _ => rfl)))))
      (pss_cons (ps_if (PW.pt (pw_or (pt_not (pt_val (pe_call cis_row.G (hr.mono (by decide)) (by rfl) cis_row.g cis_row.kp cis_row.b .nil pass0 (pa_cons (pe_ix ix_tup (pv 0) pe_int (fun _ _ => rfl)) (pa_cons pe_int (pa_cons pe_int pa_nil)))))) (pw_or1 (pt_not (pt_val (pe_callB (cr_all rfl) (by rfl) T.all (by decide +kernel) (pa_cons (pe_lc (own := [("one", 4)]) (g := gName 4) rfl scis_program.nd (pi_tup (pe_ix ix_tup (pv 0) pe_int (fun _ _ => rfl))) (blkOk_by (own := [("one", 4)]) (N := ["thing", "cells", "commands", "cell", "one"]) (sc := defScope sis_program) (by decide +kernel)) (fun _ _ _ _ _ => (pg_name (i := 4) scis_program.nd rfl (.inl rfl))) (fun _ _ _ _ _ => pts_nil) (fun _ _ _ _ _ => (pe_call cis_command.G (hr.mono (by decide)) (by rfl) cis_command.g cis_command.kp cis_command.b .nil pass0 (pa_cons (pv 4) (pa_cons (pv 1) pa_nil))))) pa_nil)))))))
        (pss_one (ps_ret pe_bl))
        pss_nil)
      (pss_cons (ps_set (i := 2) scis_program.nd rfl (.inr rfl) (pe_lc (own := [("one", 4)]) (g := gName 4) rfl scis_program.nd (pi_tup (pe_ix ix_tup (pv 0) pe_int (fun _ _ => rfl))) (blkOk_by (own := [("one", 4)]) (N := ["thing", "cells", "commands", "cell", "one"]) (sc := defScope sis_program) (by decide +kernel)) (fun _ _ _ _ _ => (pg_name (i := 4) scis_program.nd rfl (.inl rfl))) (fun _ _ _ _ _ => pts_nil) (fun _ _ _ _ _ => (pe_ix (ixT K) (pv 4) pe_int (fun _ _ => rfl)))))
      (pss_cons (ps_if (PW.pt (pw_or (pt_not (pt_val (pe_callB call_isT (by rfl) T.isinstance (by decide +kernel) (pa_cons (pe_ix ix_tup (pv 0) pe_int (fun _ _ => rfl)) (pa_cons (pe_bltn (v := .ty "bool") (u := .type "bool") (by rfl) T.bool (by decide +kernel) rfl) pa_nil))))) (pw_or1 (pt_not (pt_val (pe_call cis_row.G (hr.mono (by decide)) (by rfl) cis_row.g cis_row.kp cis_row.b .nil pass0 (pa_cons (pe_ix ix_tup (pv 0) pe_int (fun _ _ => rfl)) (pa_cons pe_int (pa_cons pe_int pa_nil)))))))))
        (pss_one (ps_ret pe_bl))
        pss_nil)
      (pss_cons (ps_if (pt_not (pt_val (pe_callB (cr_all rfl) (by rfl) T.all (by decide +kernel) (pa_cons (pe_lc (own := [("one", 4)]) (g := gName 4) rfl scis_program.nd (pi_tup (pe_ix ix_tup (pv 0) pe_int (fun _ _ => rfl))) (blkOk_by (own := [("one", 4)]) (N := ["thing", "cells", "commands", "cell", "one"]) (sc := defScope sis_program) (by decide +kernel)) (fun _ _ _ _ _ => (pg_name (i := 4) scis_program.nd rfl (.inl rfl))) (fun _ _ _ _ _ => pts_nil) (fun _ _ _ _ _ => (pe_call cis_mark.G hr (by rfl) cis_mark.g cis_mark.kp cis_mark.b .nil pass0 (pa_cons (pv 4) (pa_cons (pv 1) (pa_cons (pv 2) (pa_cons (pe_ix (ixT K) (pv 0) pe_int (fun _ _ => rfl)) pa_nil))))))) pa_nil))))
        (pss_one (ps_ret pe_bl))
        pss_nil)
      (pss_one (ps_ret (pe_and (pe_call care_unlike.G (hr.mono (by decide)) (by rfl) care_unlike.g care_unlike.kp care_unlike.b .nil pass0 (pa_cons (pv 1) pa_nil)) (pe_and (pe_call care_unlike.G (hr.mono (by decide)) (by rfl) care_unlike.g care_unlike.kp care_unlike.b .nil pass0 (pa_cons (pv 2) pa_nil)) (pe_one (pe_call care_unlike.G (hr.mono (by decide)) (by rfl) care_unlike.g care_unlike.kp care_unlike.b .nil pass0 (pa_cons (pe_lc (own := [("one", 4)]) (g := gName 4) rfl scis_program.nd (pi_tup (pe_ix ix_tup (pv 0) pe_int (fun _ _ => rfl))) (blkOk_by (own := [("one", 4)]) (N := ["thing", "cells", "commands", "cell", "one"]) (sc := defScope sis_program) (by decide +kernel)) (fun _ _ _ _ _ => (pg_name (i := 4) scis_program.nd rfl (.inl rfl))) (fun _ _ _ _ _ => pts_nil) (fun _ _ _ _ _ => (pe_ix (ixT K) (pv 4) pe_int (fun _ _ => rfl)))) pa_nil))))))))))))), ?_⟩
    refine ⟨_, rfl, v, t, N, 4, 4, rfl, x, _, rfl, ?_⟩
    cases hrow : rowB t 4 4 with
    | false =>
      have q := q H (Same.refl _)
      rw [prog_no hrow] at q
      exact iteT q
    | true =>
      obtain ⟨a, x0, x1, x2, x3, t0, t1, t2, t3, rfl, rfl, hx, y0, y1, y2, y3⟩ := row4 x hrow
      refine iteF ⟨_, rfl, a, _, 0, x0, rfl, rfl, hx, at_of (j := 0) rfl rfl, x0, t0, N, 1, 4, rfl, y0, _, rfl, ?_⟩
      cases h0 : rowB t0 1 4 with
      | false =>
        have q := q H (Same.refl _)
        rw [prog_r0 h0] at q
        exact iteT q
      | true =>
        obtain ⟨a0, xs0, cs, rfl, rfl, hx0, hall0, l00, l01⟩ := row_tup y0 h0
        refine iteF ⟨_, rfl, a, _, 0, .ref a0, rfl, rfl, hx, at_of (j := 0) rfl rfl, a0, rfl, ⟨_, hx0⟩, fun D hD => lc_thT (fun t => .bl (cellB t)) hx0 hall0 hD (by omega) (fun _ => rfl) (fun y t H1 _ yt s1 N1 N2 k1 => ?_) (fun H1 s1 hD1 => ?_)⟩
        · exact ⟨_, rfl, y, t, N, rfl, yt, k1⟩
        rw [all_bl cellB] at hD1
        refine ⟨D, _, rfl, SqL.of hD1, ?_⟩
        rw [all_id cellB]
        refine ⟨_, rfl, ?_⟩
        cases hc : cs.all cellB with
        | false =>
          have q := q H1 s1
          rw [prog_cells hc] at q
          exact iteT q
        | true =>
          refine iteF ⟨_, rfl, a, _, 0, .ref a0, rfl, rfl, ssqt s1 hx, at_of (j := 0) rfl rfl, a0, rfl, ⟨_, ssqt s1 hx0⟩, fun D2 hD2 => lc_thT (fun t => .str (fstS t)) (ssqt s1 hx0) (hall0.same s1) hD2 (by omega) (fun _ => rfl) (fun y t H2 mt yt s2 N1 N2 k1 => ?_) (fun H2 s2 hD2 => ?_)⟩
          · obtain ⟨z, r, rfl⟩ := cell_fst (List.all_eq_true.mp hc t mt)
            obtain ⟨b, ys, rfl, hb⟩ := fst_at yt
            exact ⟨_, rfl, b, _, 0, .str z, rfl, rfl, hb, at_of (j := 0) rfl rfl, k1 H2 (Same.refl _)⟩
          rw [fsts_map] at hD2
          have s12 := s1.trans s2
          have y1 := y1.same s12
          refine ⟨_, rfl, a, _, 1, x1, rfl, rfl, ssqt s12 hx, at_of (j := 1) rfl rfl, x1, t1, N, 0, 8, rfl, y1, _, rfl, ?_⟩
          cases h1 : rowB t1 0 8 with
          | false =>
            have q := q H2 s12
            rw [prog_r1 h1] at q
            exact iteT q
          | true =>
            obtain ⟨a1, xs1, ms, rfl, rfl, hx1, hall1, l10, l11⟩ := row_tup y1 h1
            refine iteF ⟨_, rfl, a, _, 1, .ref a1, rfl, rfl, ssqt s12 hx, at_of (j := 1) rfl rfl, a1, rfl, ⟨_, hx1⟩, fun D3 hD3 => lc_thT (fun t => .bl (commandB t (cs.map fstS))) hx1 hall1 hD3 (by omega) (fun _ => rfl) (fun y t H3 _ yt s3 N1 N2 k1 => ?_) (fun H3 s3 hD3 => ?_)⟩
            · exact ⟨_, rfl, _, rfl, y, t, N, D2, cs.map fstS, rfl, yt, SqL.of (s3 _ _ hD2), k1⟩
            rw [all_bl (commandB · (cs.map fstS))] at hD3
            refine ⟨D3, _, rfl, SqL.of hD3, ?_⟩
            rw [all_id (commandB · (cs.map fstS))]
            have s13 := s12.trans s3
            refine ⟨_, rfl, ?_⟩
            cases hm : ms.all (commandB · (cs.map fstS)) with
            | false =>
              have q := q H3 s13
              rw [prog_commands hm] at q
              exact iteT q
            | true =>
              refine iteF ⟨_, rfl, a, _, 1, .ref a1, rfl, rfl, ssqt s13 hx, at_of (j := 1) rfl rfl, a1, rfl, ⟨_, ssqt s3 hx1⟩, fun D4 hD4 => lc_thT (fun t => .str (fstS t)) (ssqt s3 hx1) (hall1.same s3) hD4 (by omega) (fun _ => rfl) (fun y t H4 mt yt s4 N1 N2 k1 => ?_) (fun H4 s4 hD4 => ?_)⟩
              · obtain ⟨z, r, rfl⟩ := command_fst (List.all_eq_true.mp hm t mt)
                obtain ⟨b, ys, rfl, hb⟩ := fst_at yt
                exact ⟨_, rfl, b, _, 0, .str z, rfl, rfl, hb, at_of (j := 0) rfl rfl, k1 H4 (Same.refl _)⟩
              rw [fsts_map] at hD4
              have s14 := s13.trans s4
              have y3 := y3.same s14
              have y2 := y2.same s14
              have hD24 := s4 _ _ (s3 _ _ hD2)
              refine ⟨_, rfl, a, _, 3, x3, rfl, rfl, ssqt s14 hx, at_of (j := 3) rfl rfl, x3, t3, N, "bool", rfl, y3, by simp [tyL], _, rfl, ?_⟩
              rcases bool_or y3 with ⟨k, rfl, rfl⟩ | hb
              · rw [show isTh "bool" (.bl k) = true by simp [isTh, tyn]]
                refine iteF ⟨_, rfl, a, _, 2, x2, rfl, rfl, ssqt s14 hx, at_of (j := 2) rfl rfl, x2, t2, N, 0, 8, rfl, y2, _, rfl, ?_⟩
                cases h2 : rowB t2 0 8 with
                | false =>
                  have q := q H4 s14
                  rw [prog_r2 h2] at q
                  exact iteT q
                | true =>
                  obtain ⟨a2, xs2, ks, rfl, rfl, hx2, hall2, l20, l21⟩ := row_tup y2 h2
                  have e := prog_eq (cs := cs) (ms := ms) (ks := ks) (k := k)
                  rw [row_le8] at h1 h2
                  have hl0 : cs.length = xs0.length := hall0.len.symm
                  rw [decide_eq_true (show 1 ≤ cs.length by omega), decide_eq_true (show cs.length ≤ 4 by omega), hc, h1, hm, h2] at e
                  simp only [Bool.true_and] at e
                  rw [e] at q
                  refine iteF ⟨_, rfl, a, _, 2, .ref a2, rfl, rfl, ssqt s14 hx, at_of (j := 2) rfl rfl, a2, rfl, ⟨_, hx2⟩, fun D5 hD5 => lc_thT (fun t => .bl (markB t (cs.map fstS) (ms.map fstS) k)) hx2 hall2 hD5 (by omega) (fun _ => rfl) (fun y t H5 _ yt s5 N1 N2 k1 => ?_) (fun H5 s5 hD5 => ?_)⟩
                  · exact ⟨_, rfl, _, rfl, _, rfl, _, rfl, a, _, 3, .bl k, rfl, rfl, ssqt (s14.trans s5) hx, at_of (j := 3) rfl rfl, y, t, N, D2, D4, cs.map fstS, ms.map fstS, k, rfl, yt, SqL.of (s5 _ _ hD24), SqL.of (s5 _ _ hD4), k1⟩
                  rw [all_bl (markB · (cs.map fstS) (ms.map fstS) k)] at hD5
                  refine ⟨D5, _, rfl, SqL.of hD5, ?_⟩
                  rw [all_id (markB · (cs.map fstS) (ms.map fstS) k)]
                  have s15 := s14.trans s5
                  refine ⟨_, rfl, ?_⟩
                  cases hk : ks.all (markB · (cs.map fstS) (ms.map fstS) k) with
                  | false =>
                    have q := q H5 s15
                    rw [hk, Bool.false_and] at q
                    exact iteT q
                  | true =>
                    rw [hk, Bool.true_and] at q
                    refine iteF ⟨_, rfl, D2, _, rfl, SqL.of (s5 _ _ hD24), by rw [List.length_map]; omega, fun H6 s6 => ⟨_, rfl, ?_⟩⟩
                    have s16 := s15.trans s6
                    by_cases n1 : (cs.map fstS).Nodup
                    · rw [decide_eq_true n1, Bool.true_and] at q
                      rw [decide_eq_true n1]
                      refine iteT ⟨_, rfl, D4, _, rfl, SqL.of (s6 _ _ (s5 _ _ hD4)), by rw [List.length_map, ← hall1.len]; omega, fun H7 s7 => ⟨_, rfl, ?_⟩⟩
                      have s17 := s16.trans s7
                      by_cases n2 : (ms.map fstS).Nodup
                      · rw [decide_eq_true n2, Bool.true_and] at q
                        rw [decide_eq_true n2]
                        have s57 := (s5.trans s6).trans s7
                        refine iteT ⟨_, rfl, a, _, 2, .ref a2, rfl, rfl, ssqt s17 hx, at_of (j := 2) rfl rfl, a2, rfl, ⟨_, ssqt s57 hx2⟩, fun D8 hD8 => lc_thT (fun t => .str (fstS t)) (ssqt s57 hx2) (hall2.same s57) hD8 (by omega) (fun _ => rfl) (fun y t H8 mt yt s8 N1 N2 k1 => ?_) (fun H8 s8 hD8 => ?_)⟩
                        · obtain ⟨z, r, rfl⟩ := mark_fst (List.all_eq_true.mp hk t mt)
                          obtain ⟨b, ys, rfl, hb⟩ := fst_at yt
                          exact ⟨_, rfl, b, _, 0, .str z, rfl, rfl, hb, at_of (j := 0) rfl rfl, k1 H8 (Same.refl _)⟩
                        rw [fsts_map] at hD8
                        exact ⟨D8, _, rfl, SqL.of hD8, by rw [List.length_map, ← hall2.len]; omega, fun H9 s9 => q H9 ((s17.trans s8).trans s9)⟩
                      · have q := q H7 s17
                        rw [decide_eq_false n2, Bool.false_and] at q
                        rw [decide_eq_false n2]
                        exact iteF q
                    · have q := q H6 s16
                      rw [decide_eq_false n1, Bool.false_and] at q
                      rw [decide_eq_false n1]
                      exact iteF q
              · have q := q H4 s14
                rw [prog_r3 hb] at q
                rw [hb]
                exact iteT q
structure XOne (K : PySem.W.Frag) (mg : Str → Option Value) (nR : Str) where
  R : Addr
  xR : XCls K mg nR R
  r : XRai K R
def spCk (K : PySem.W.Frag) (cE : Addr) : Sp := fun vs H Q E => ∃ (v : V) (t : Th) (N : Nat), vs = [v] ∧ TAt N K H v t ∧ (progB t = true → ∀ H', Same H H' → Q (.bl true) H') ∧ (progB t = false → ∀ H', Same H H' → E (.ref cE) none H')
theorem ok_ck {f : Addr} {fd : FuncData} (F : Fun K "check" "check" scheck f fd) (S : XOne K mg "NoProgram") (cis_program : Cal P w K mg base 7 "is_program" ["thing"] (spProg K)) : FnOk P w K mg base (L2.CX P w) 8 f fd ["thing"] (spCk K S.R) := by
  have xNoProgram := S.xR
  have rE := S.r
  refine F.okX sccheck (fun vs H Q E h => ?_) (fun cdv A outer s H vs Q E hr h => ?_)
  · obtain ⟨v, t, N, rfl, _⟩ := h
    rfl
  · obtain ⟨v, t, N, rfl, x, q1, q2⟩ := h
    refine ⟨_, (pss_cons (ps_if (pt_not (pt_val (pe_call cis_program.G hr (by rfl) cis_program.g cis_program.kp cis_program.b .nil pass0 (pa_cons (pv 0) pa_nil))))
        (pss_one (ps_raise rfl (takes_of rfl rfl rfl rfl) (pmk_own PySem.F.excBase_ValueError rE.x xNoProgram.g xNoProgram.k (raises_own xNoProgram.b xNoProgram.t) rfl)))
        pss_nil)
      (pss_one (ps_ret pe_bl))), ?_⟩
    refine ⟨_, rfl, v, t, N, rfl, x, fun H1 s1 => ⟨_, rfl, ?_⟩⟩
    cases hm : progB t with
    | false => exact iteT (q2 hm H1 s1)
    | true => exact iteF (q1 hm H1 s1)
end

/-! ### comprehensions whose lists hold things -/
structure Tk (K : PySem.W.Frag) (H H' : Hp) : Prop where
  t : ∀ a xs, SqT K H a xs → SqT K H' a xs
  l : ∀ a xs, H a = some (.lst xs) → ∃ ys, H' a = some (.lst ys)
  d : ∀ a kvs, H a = some (.dK kvs) → H' a = some (.dK kvs)
section
variable {N : Nat} {K : PySem.W.Frag} {H H' H1 : Hp}
theorem Tk.trans (x : Tk K H H') (y : Tk K H' H1) : Tk K H H1 := ⟨fun a xs h => y.t a xs (x.t a xs h), fun a xs h => let ⟨ys, h1⟩ := x.l a xs h; y.l a ys h1, fun a kvs h => y.d a kvs (x.d a kvs h)⟩
theorem tk_same (s : Same H H') : Tk K H H' := ⟨fun _ _ h => ssqt s h, fun _ xs h => ⟨xs, s _ _ h⟩, fun _ _ h => s _ _ h⟩
theorem tk_list {p : Addr} {xs ys : List V} (h : H p = some (.lst xs)) : Tk K H (upd H p (.lst ys)) := ⟨fun _ _ q => (Imm.list h).sq q, fun a zs q => by
  by_cases e : a = p
  · exact ⟨ys, by rw [e, upd_same]⟩
  · exact ⟨zs, by rw [upd_ne e]; exact q⟩, fun a kvs q => by rw [upd_ne (ne_of h q (by intro z; cases z)).symm]; exact q⟩
theorem tk_kp {A : PA} {c c' : Nat} (P : Pool H A c) (P' : Pool H' A c') (k : Kp A H H') : Tk K H H' := ⟨fun _ _ h => (P.imm k).sq h, fun a xs h => by
  obtain ⟨gs, ss, st, ct, p1, p2, p3, _⟩ := P'.ex
  by_cases h1 : a = A.p
  · exact ⟨_, by rw [h1]; exact p1⟩
  · by_cases h2 : a = A.g
    · exact ⟨_, by rw [h2]; exact p2⟩
    · by_cases h3 : a = A.s
      · exact ⟨_, by rw [h3]; exact p3⟩
      · exact ⟨xs, k _ _ h ⟨h1, h2, h3⟩⟩, fun a kvs h => k _ _ h (P.offo h fun _ q => by cases q)⟩
theorem TAt.tk {v : V} {t : Th} (x : TAt N K H v t) (k : Tk K H H') : TAt N K H' v t := TAt.keep (Nat.le_refl _) k.t k.l k.d x
theorem TAll.tk {vs : List V} {ts : List Th} (x : TAll N K H vs ts) (k : Tk K H H') : TAll N K H' vs ts := TAll.keep (Nat.le_refl _) k.t k.l k.d x
theorem TAll.snoc {v : V} {t : Th} (y : TAt N K H v t) : ∀ {vs : List V} {ts : List Th}, TAll N K H vs ts → TAll N K H (vs ++ [v]) (ts ++ [t])
  | _, _, .nil => .cons y .nil
  | _, _, .cons x r => .cons x (TAll.snoc y r)
theorem lc_rangeT {lo : Int} {n j : Nat} {tt : TT} {te : TE} {vs : List Nat} {σ : L2.St} {H1 : Hp} {D : Addr} {Qd : Hp → Prop} {a : PA} {c0 : Nat} (k : Nat) (ok : Nat → Hp → List V → Prop) (st : ∀ i H H' acc, Tk K H H' → ok i H acc → ok i H' acc)
    (P0 : Pool H1 a c0) (hD : H1 D = none) (hn : n ≤ 100000) (h0 : ∀ H, ok 0 H []) (hw : ∀ x, wipe ((wipe σ vs).set j (some x)) vs = wipe σ vs)
    (turn : ∀ (i : Nat) (H : Hp) (acc : List V), i < n → Pool H a (c0 + i * k) → Kp a H1 H → ok i H acc → acc.length ≤ i → ∀ (N1 : V → Hp → Prop) (N2 : Hp → Prop),
      (∀ y H', Pool H' a (c0 + i * k + k) → Kp a H H' → ok (i + 1) H' (acc ++ [y]) → N1 y H') → (∀ H', Pool H' a (c0 + i * k + k) → Kp a H H' → ok (i + 1) H' acc → N2 H') →
      tt ((wipe σ vs).set j (some (.int (lo + i)))) H fun b H3 => if b = true then te ((wipe σ vs).set j (some (.int (lo + i)))) H3 N1 else N2 H3)
    (done : ∀ (H : Hp) (acc : List V), Pool H a (c0 + n * k) → Kp a H1 H → H D = some (.lst acc) → acc.length ≤ n → ok n H acc → Off a D → Qd H) :
    ∃ W : Nat → Nat → Hp → Prop, (∃ m, W 0 m (upd H1 D (.lst []))) ∧ ∀ i m H, W i m H →
      ((Itr lo n).stop i H ∧ Qd H) ∨ ((Itr lo n).go i H ∧ ∃ Nx : Hp → Prop, (∀ H', Nx H' → ∃ m', m' < m ∧ W (i + 1) m' H') ∧ ∀ x H', (Itr lo n).yld i H x H' → (gName j) x (wipe σ vs) H' fun σ2 H2 => wipe σ2 vs = wipe σ vs ∧ tt σ2 H2 fun b H3 =>
        if b = true then te σ2 H3 fun y H4 => ∃ acc, H4 D = some (.lst acc) ∧ acc.length < sizeLine ∧ Nx (upd H4 D (.lst (acc ++ [y]))) else Nx H3) := by
  have oD : Off a D := P0.off hD
  refine lc_range (lo := lo) (n := n) (fun i H => ∃ acc, Pool H a (c0 + i * k) ∧ Kp a H1 H ∧ H D = some (.lst acc) ∧ acc.length ≤ i ∧ ok i H acc) ⟨[], ?_, skp (same_upd hD), upd_same, Nat.le_refl _, h0 _⟩ (fun i H hi p => ?_) (fun H p => ?_)
  · rw [Nat.zero_mul]
    exact P0.upd oD
  · obtain ⟨acc, p1, p2, p3, p4, p5⟩ := p
    refine ⟨hw _, turn i H acc hi p1 p2 p5 p4 _ _ (fun y H' q1 q2 q3 => ⟨acc, q2 _ _ p3 oD, szLt (by omega), acc ++ [y], ?_, ?_, upd_same, ?_, st _ _ _ _ (tk_list (q2 _ _ p3 oD)) q3⟩) (fun H' q1 q2 q3 => ⟨acc, ?_, p2.trans q2, q2 _ _ p3 oD, by omega, q3⟩)⟩
    · rw [Nat.succ_mul, ← Nat.add_assoc]
      exact q1.upd oD
    · exact Kp.mut (p2.trans q2) hD
    · rw [List.length_append]
      show acc.length + 1 ≤ i + 1
      omega
    · rw [Nat.succ_mul, ← Nat.add_assoc]
      exact q1
  · obtain ⟨acc, p1, p2, p3, p4, p5⟩ := p
    exact done H acc p1 p2 p3 p4 p5 oD
theorem lc_listT {a : Addr} {xs : List V} {j : Nat} {tt : TT} {te : TE} {vs : List Nat} {σ : L2.St} {H1 : Hp} {D : Addr} {Qd : Hp → Prop} {A : PA} {c0 : Nat} (k : Nat) (ok : Nat → Hp → List V → Prop) (st : ∀ i H H' acc, Tk K H H' → ok i H acc → ok i H' acc)
    (P0 : Pool H1 A c0) (hx : H1 a = some (.lst xs)) (ox : Off A a) (hD : H1 D = none) (hn : xs.length ≤ 100000) (h0 : ∀ H, ok 0 H []) (hw : ∀ x, wipe ((wipe σ vs).set j (some x)) vs = wipe σ vs)
    (turn : ∀ (i : Nat) (x : V) (H : Hp) (acc : List V), xs[i]? = some x → Pool H A (c0 + i * k) → Kp A H1 H → ok i H acc → acc.length ≤ i → ∀ (N1 : V → Hp → Prop) (N2 : Hp → Prop),
      (∀ y H', Pool H' A (c0 + i * k + k) → Kp A H H' → ok (i + 1) H' (acc ++ [y]) → N1 y H') → (∀ H', Pool H' A (c0 + i * k + k) → Kp A H H' → ok (i + 1) H' acc → N2 H') →
      tt ((wipe σ vs).set j (some x)) H fun b H3 => if b = true then te ((wipe σ vs).set j (some x)) H3 N1 else N2 H3)
    (done : ∀ (H : Hp) (acc : List V), Pool H A (c0 + xs.length * k) → Kp A H1 H → H D = some (.lst acc) → acc.length ≤ xs.length → ok xs.length H acc → Off A D → Qd H) :
    ∃ W : Nat → Nat → Hp → Prop, (∃ m, W 0 m (upd H1 D (.lst []))) ∧ ∀ i m H, W i m H →
      ((Itl K a).stop i H ∧ Qd H) ∨ ((Itl K a).go i H ∧ ∃ Nx : Hp → Prop, (∀ H', Nx H' → ∃ m', m' < m ∧ W (i + 1) m' H') ∧ ∀ x H', (Itl K a).yld i H x H' → (gName j) x (wipe σ vs) H' fun σ2 H2 => wipe σ2 vs = wipe σ vs ∧ tt σ2 H2 fun b H3 =>
        if b = true then te σ2 H3 fun y H4 => ∃ acc, H4 D = some (.lst acc) ∧ acc.length < sizeLine ∧ Nx (upd H4 D (.lst (acc ++ [y]))) else Nx H3) := by
  have oD : Off A D := P0.off hD
  refine lc_list (xs := xs) (fun i H => ∃ acc, Pool H A (c0 + i * k) ∧ Kp A H1 H ∧ H D = some (.lst acc) ∧ acc.length ≤ i ∧ ok i H acc) ⟨[], ?_, skp (same_upd hD), upd_same, Nat.le_refl _, h0 _⟩ (fun i H _ p => ?_) (fun i x H hi p => ?_) (fun H p => ?_)
  · rw [Nat.zero_mul]
    exact P0.upd oD
  · obtain ⟨acc, p1, p2, _⟩ := p
    exact SqL.of (p2 _ _ hx ox)
  · obtain ⟨acc, p1, p2, p3, p4, p5⟩ := p
    have hil : i < xs.length := (List.getElem?_eq_some_iff.mp hi).1
    refine ⟨hw _, turn i x H acc hi p1 p2 p5 p4 _ _ (fun y H' q1 q2 q3 => ⟨acc, q2 _ _ p3 oD, szLt (by omega), acc ++ [y], ?_, ?_, upd_same, ?_, st _ _ _ _ (tk_list (q2 _ _ p3 oD)) q3⟩) (fun H' q1 q2 q3 => ⟨acc, ?_, p2.trans q2, q2 _ _ p3 oD, by omega, q3⟩)⟩
    · rw [Nat.succ_mul, ← Nat.add_assoc]
      exact q1.upd oD
    · exact Kp.mut (p2.trans q2) hD
    · rw [List.length_append]
      show acc.length + 1 ≤ i + 1
      omega
    · rw [Nat.succ_mul, ← Nat.add_assoc]
      exact q1
  · obtain ⟨acc, p1, p2, p3, p4, p5⟩ := p
    exact done H acc p1 p2 p3 p4 p5 oD
end

/-! ### the law's own programs -/
abbrev s_law_worth : Stmt := topS 51
theorem sc_law_worth : FnScope ["_law_pool_here", "_law_names_here"] ["_law_pool_here", "_law_names_here"] (defScope s_law_worth) := ⟨rfl, rfl, rfl, by decide +kernel, rfl, by decide +kernel, by decide +kernel⟩
abbrev s_law_test : Stmt := topS 52
theorem sc_law_test : FnScope ["_law_pool_here", "_law_names_here", "_law_name_here"] ["_law_pool_here", "_law_names_here"] (defScope s_law_test) := ⟨rfl, rfl, rfl, by decide +kernel, rfl, by decide +kernel, by decide +kernel⟩
abbrev s_law_cells : Stmt := topS 53
theorem sc_law_cells : FnScope ["_law_pool_here", "_law_names_here", "_law_room", "_law_cells_here", "_law_name_here", "_law_size"] ["_law_pool_here", "_law_names_here", "_law_room"] (defScope s_law_cells) := ⟨rfl, rfl, rfl, by decide +kernel, rfl, by decide +kernel, by decide +kernel⟩
abbrev s_law_command : Stmt := topS 54
theorem sc_law_command : FnScope ["_law_pool_here", "_law_name_here", "_law_names_here", "_law_tests", "_law_turn", "_law_some", "_law_sets", "_law_k", "_law_one"] ["_law_pool_here", "_law_name_here", "_law_names_here"] (defScope s_law_command) := ⟨rfl, rfl, rfl, by decide +kernel, rfl, by decide +kernel, by decide +kernel⟩
abbrev s_law_ask : Stmt := topS 55
theorem sc_law_ask : FnScope ["_law_pool_here", "_law_cells_here", "_law_commands", "_law_keeps", "_law_word"] ["_law_pool_here", "_law_cells_here", "_law_commands", "_law_keeps"] (defScope s_law_ask) := ⟨rfl, rfl, rfl, by decide +kernel, rfl, by decide +kernel, by decide +kernel⟩
theorem good_cps {z : Str} (g : GoodName z) : ∀ c ∈ z.cps.toList, c < 1114112 := fun c hc => by
  have := g.al c hc
  rw [letters_eq, List.mem_range'] at this
  omega
theorem good_th {N : Nat} {K : PySem.W.Frag} {H : Hp} {z : Str} (g : GoodName z) : TAt N K H (.str z) (.str z) := .str z (by have := g.hi; omega) (good_cps g)
theorem good_nameB {z : Str} (g : GoodName z) : nameB (.str z) = true := by
  rw [name_rest g.lo g.hi g.nw]
  exact List.all_eq_true.mpr fun c hc => decide_eq_true (g.al c hc)
theorem good_ofB {z : Str} {zs : List Str} (g : GoodName z) (h : z ∈ zs) : ofB (.str z) zs = true := by
  show (nameB (.str z) && decide (z ∈ zs)) = true
  rw [good_nameB g, decide_eq_true h]
  rfl
theorem num_yes {i lo hi : Int} (h1 : lo ≤ i) (h2 : i < hi) : numB (.int i) lo hi = true := by
  show (decide (lo ≤ i) && decide (i < hi)) = true
  rw [decide_eq_true h1, decide_eq_true h2]
  rfl
theorem test_ask {t : Th} {cs ms : List Str} {k : Bool} (h : testB t cs = true) : askB t cs ms k = true := by
  unfold askB
  split
  · simp [testB] at h
  · simp [testB] at h
  · exact h
theorem at_len {zs : List Str} {j : Nat} (h : j < zs.length) : atI (zs.map V.str) (j : Int) = some (.str zs[j]) := atI_nat (get_map (List.getElem?_eq_getElem h))
theorem cut_from {xs : List V} {k : Nat} (h : k ≤ xs.length) : cutV xs (some (k : Int)) none = xs.drop k := by
  unfold cutV
  rw [show HT.sIx xs.length 0 (some (k : Int)) = min k xs.length from HT.sIx_nat xs.length 0 k, HT.sIx_none, Nat.min_eq_left h]
  rw [← List.length_drop, List.take_length]
theorem cut_to {xs : List V} {k : Nat} : cutV xs none (some (k : Int)) = xs.take k := by
  unfold cutV
  rw [show HT.sIx xs.length xs.length (some (k : Int)) = min k xs.length from HT.sIx_nat xs.length xs.length k, HT.sIx_none, List.drop_zero, Nat.sub_zero]
  by_cases h : k ≤ xs.length
  · rw [Nat.min_eq_left h]
  · rw [Nat.min_eq_right (by omega), List.take_length, List.take_of_length_le (by omega)]
section
variable {P : Program} {w : World} {K : PySem.W.Frag} {mg : Str → Option Value} {base : Heap}
def spLWorth (K : PySem.W.Frag) : Sp := fun vs H Q _ => ∃ (A : PA) (c : Nat) (l : Addr) (zs : List Str), vs = [.ref A.p, .ref l] ∧ Pool H A c ∧ c < 800000 ∧ H l = some (.lst (zs.map V.str)) ∧ Off A l ∧ (∀ z ∈ zs, GoodName z) ∧ 1 ≤ zs.length ∧ zs.length ≤ 12 ∧
  ∀ (H' : Hp) (v : V) (t : Th), Pool H' A (c + 3) → Kp A H H' → TAt 10 K H' v t → worthB t zs = true → Q v H'
theorem ok_lworth {f : Addr} {fd : FuncData} (F : Fun K "_law_worth" "_law_worth" s_law_worth f fd) (T : Bi mg) (c_law_draw : Cal P w K mg base 1 "_law_draw" ["_law_pool_here", "_law_many"] spDraw) : FnOk P w K mg base CX0 2 f fd ["_law_pool_here", "_law_names_here"] (spLWorth K) := by
  refine F.ok sc_law_worth (fun vs H Q E h => ?_) (fun cdv A outer s H vs Q E hr h => ?_)
  · obtain ⟨A, c, l, zs, rfl, _⟩ := h
    rfl
  · obtain ⟨PL, c, l, zs, rfl, P0, hc, hl, ol, gz, l0, l1, q⟩ := h
    refine ⟨_, (pss_cons (ps_if (pt_cmpR op_eq (pe_call c_law_draw.G hr (by rfl) c_law_draw.g c_law_draw.kp c_law_draw.b .nil pass0 (pa_cons (pv 0) (pa_cons pe_int pa_nil))) pe_int (nomark _))
        (pss_one (ps_ret (pe_call c_law_draw.G hr (by rfl) c_law_draw.g c_law_draw.kp c_law_draw.b .nil pass0 (pa_cons (pv 0) (pa_cons (pe_ix ix_list (pe_lst (pa_cons pe_int (pa_cons pe_int pa_nil))) (pe_call c_law_draw.G hr (by rfl) c_law_draw.g c_law_draw.kp c_law_draw.b .nil pass0 (pa_cons (pv 0) (pa_cons pe_int pa_nil))) (fun _ _ => rfl)) pa_nil)))))
        pss_nil)
      (pss_one (ps_ret (pe_tup (pa_cons (pe_ix ix_list (pv 1) (pe_call c_law_draw.G hr (by rfl) c_law_draw.g c_law_draw.kp c_law_draw.b .nil pass0 (pa_cons (pv 0) (pa_cons (pe_callB call_len_seq (by rfl) T.len PySem.boot_len (pa_cons (pv 1) pa_nil)) pa_nil))) (fun _ _ => rfl)) (pa_cons (pe_op op_sub (pe_call c_law_draw.G hr (by rfl) c_law_draw.g c_law_draw.kp c_law_draw.b .nil pass0 (pa_cons (pv 0) (pa_cons pe_int pa_nil))) pe_int) pa_nil)))))), ?_⟩
    refine ⟨_, rfl, PL, _, 2, rfl, P0, by omega, by decide, by decide, fun H1 x _ _ P1 K1 => ⟨rfl, _, rfl, ite2 (fun e => ?_) (fun e => ?_)⟩⟩
    · refine ⟨_, rfl, by show 2 ≤ sizeLine; decide, fun L hL => ?_⟩
      have P2 := P1.same (same_upd (o := .lst [.int 3, .int 9]) hL)
      refine ⟨_, rfl, PL, _, 2, rfl, P2, by omega, by decide, by decide, fun H2 y y0 y1 P3 K3 => ?_⟩
      have hL3 := K3 _ _ upd_same (P1.off hL)
      obtain ⟨n, hn, n0, n9⟩ : ∃ n : Int, atI [V.int 3, .int 9] y = some (.int n) ∧ 0 < n ∧ n ≤ 9 := by
        have : y = 0 ∨ y = 1 := by omega
        rcases this with rfl | rfl
        · exact ⟨3, rfl, by decide, by decide⟩
        · exact ⟨9, rfl, by decide, by decide⟩
      refine ⟨L, _, _, _, rfl, rfl, SqL.of hL3, hn, PL, _, n, rfl, P3, by omega, n0, by omega, fun H4 z z0 z1 P4 K4 => ?_⟩
      exact q H4 _ (.int z) P4 (((K1.trans (skp (same_upd hL))).trans K3).trans K4) (.int z) (num_yes z0 (by omega))
    · have hl1 := K1 _ _ hl ol
      refine ⟨_, rfl, _, rfl, _, rfl, l, _, rfl, .inl (SqL.of hl1), PL, _, (zs.length : Nat), by rw [List.length_map]; rfl, P1, by omega, by omega, by omega, fun H2 x x0 x1 P2 K2 => ?_⟩
      obtain ⟨x, rfl⟩ : ∃ j : Nat, x = (j : Int) := ⟨x.toNat, by omega⟩
      have hx : x < zs.length := by omega
      refine ⟨l, _, _, .str zs[x], rfl, rfl, SqL.of (K2 _ _ hl1 ol), at_len hx, _, rfl, PL, _, 17, rfl, P2, by omega, by decide, by decide, fun H3 y y0 y1 P3 K3 => ⟨_, _, rfl, rfl, by show 2 ≤ sizeLine; decide, fun t ht => ?_⟩⟩
      have gx := gz _ (List.getElem_mem hx)
      refine q _ _ (.tup [.str zs[x], .int (y - 8)]) (P3.same (same_upd ht)) (((K1.trans K2).trans K3).trans (skp (same_upd ht))) (.tup (SqT.of upd_same) (by show 2 ≤ 10; decide) (.cons (good_th gx) (.cons (.int _) .nil))) ?_
      show (ofB (.str zs[x]) zs && numB (.int (y - 8)) (-8) 9) = true
      rw [good_ofB gx (List.getElem_mem hx), num_yes (by omega) (by omega)]
      rfl
def spLTest (K : PySem.W.Frag) : Sp := fun vs H Q _ => ∃ (A : PA) (c : Nat) (l : Addr) (zs : List Str), vs = [.ref A.p, .ref l] ∧ Pool H A c ∧ c < 700000 ∧ H l = some (.lst (zs.map V.str)) ∧ Off A l ∧ (∀ z ∈ zs, GoodName z) ∧ 1 ≤ zs.length ∧ zs.length ≤ 12 ∧
  ∀ (H' : Hp) (v : V) (t : Th), Pool H' A (c + 5) → Kp A H H' → TAt 10 K H' v t → testB t zs = true → Q v H'
theorem ok_ltest {f : Addr} {fd : FuncData} (F : Fun K "_law_test" "_law_test" s_law_test f fd) (T : Bi mg) (c_law_draw : Cal P w K mg base 1 "_law_draw" ["_law_pool_here", "_law_many"] spDraw) (c_law_worth : Cal P w K mg base 2 "_law_worth" ["_law_pool_here", "_law_names_here"] (spLWorth K)) : FnOk P w K mg base CX0 3 f fd ["_law_pool_here", "_law_names_here"] (spLTest K) := by
  refine F.ok sc_law_test (fun vs H Q E h => ?_) (fun cdv A outer s H vs Q E hr h => ?_)
  · obtain ⟨A, c, l, zs, rfl, _⟩ := h
    rfl
  · obtain ⟨PL, c, l, zs, rfl, P0, hc, hl, ol, gz, l0, l1, q⟩ := h
    refine ⟨_, (pss_cons (ps_set (i := 2) sc_law_test.nd rfl (.inl rfl) (pe_ix ix_list (pv 1) (pe_call c_law_draw.G (hr.mono (by decide)) (by rfl) c_law_draw.g c_law_draw.kp c_law_draw.b .nil pass0 (pa_cons (pv 0) (pa_cons (pe_callB call_len_seq (by rfl) T.len PySem.boot_len (pa_cons (pv 1) pa_nil)) pa_nil))) (fun _ _ => rfl)))
      (pss_one (ps_ret (pe_tup (pa_cons (pv 2) (pa_cons (pe_ix ix_list (pe_lst (pa_cons pe_str (pa_cons pe_str (pa_cons pe_str pa_nil)))) (pe_call c_law_draw.G (hr.mono (by decide)) (by rfl) c_law_draw.g c_law_draw.kp c_law_draw.b .nil pass0 (pa_cons (pv 0) (pa_cons pe_int pa_nil))) (fun _ _ => rfl)) (pa_cons (pe_call c_law_worth.G hr (by rfl) c_law_worth.g c_law_worth.kp c_law_worth.b .nil pass0 (pa_cons (pv 0) (pa_cons (pv 1) pa_nil))) pa_nil))))))), ?_⟩
    refine ⟨_, rfl, _, rfl, _, rfl, l, _, rfl, .inl (SqL.of hl), PL, _, (zs.length : Nat), by rw [List.length_map]; rfl, P0, by omega, by omega, by omega, fun H1 x x0 x1 P1 K1 => ?_⟩
    obtain ⟨x, rfl⟩ : ∃ j : Nat, x = (j : Int) := ⟨x.toNat, by omega⟩
    have hx : x < zs.length := by omega
    have gx := gz _ (List.getElem_mem hx)
    have hl1 := K1 _ _ hl ol
    refine ⟨l, _, _, .str zs[x], rfl, rfl, SqL.of hl1, at_len hx, ?_⟩
    refine ⟨_, rfl, by show 3 ≤ sizeLine; decide, fun L hL => ?_⟩
    have sL := same_upd (o := .lst [.str "is", .str "not", .str "under"]) hL
    refine ⟨_, rfl, PL, _, 3, rfl, P1.same sL, by omega, by decide, by decide, fun H2 y y0 y1 P2 K2 => ?_⟩
    have hL2 := K2 _ _ upd_same (P1.off hL)
    obtain ⟨z, hz, hz2⟩ : ∃ z : Str, atI [V.str "is", .str "not", .str "under"] y = some (.str z) ∧ z ∈ testsL := by
      have : y = 0 ∨ y = 1 ∨ y = 2 := by omega
      rcases this with rfl | rfl | rfl
      · exact ⟨"is", rfl, by decide +kernel⟩
      · exact ⟨"not", rfl, by decide +kernel⟩
      · exact ⟨"under", rfl, by decide +kernel⟩
    have hzg : z.length ≤ 100 ∧ ∀ c ∈ z.cps.toList, c < 1114112 := by
      have : ∀ z ∈ testsL, z.length ≤ 100 ∧ ∀ c ∈ z.cps.toList, c < 1114112 := by decide +kernel
      exact this z hz2
    have hl2 := K2 _ _ (sL _ _ hl1) ol
    refine ⟨L, _, _, .str z, rfl, rfl, SqL.of hL2, hz, _, rfl, _, rfl, PL, _, l, zs, rfl, P2, by omega, hl2, ol, gz, l0, l1, fun H3 v t P3 K3 xt wt => ⟨by show 3 ≤ sizeLine; decide, fun p hp => ?_⟩⟩
    have sp := same_upd (o := .tup [.str zs[x], .str z, v]) hp
    refine q _ _ (.tup [.str zs[x], .str z, t]) ((P3.same sp).mono (by omega)) (((((K1.trans (skp sL)).trans K2).trans K3)).trans (skp sp)) (.tup (SqT.of upd_same) (by show 3 ≤ 10; decide) (.cons (good_th gx) (.cons (.str z hzg.1 hzg.2) (.cons (xt.same sp) .nil)))) ?_
    show (ofB (.str zs[x]) zs && (decide (z ∈ testsL) && worthB t zs)) = true
    rw [good_ofB gx (List.getElem_mem hx), decide_eq_true hz2, wt]
    rfl
def spLCells (K : PySem.W.Frag) : Sp := fun vs H Q _ => ∃ (A : PA) (c : Nat) (l : Addr) (zs : List Str) (room : Int), vs = [.ref A.p, .ref l, .int room] ∧ Pool H A c ∧ c < 800000 ∧ H l = some (.lst (zs.map V.str)) ∧ Off A l ∧ (∀ z ∈ zs, GoodName z) ∧ zs.length ≤ 8 ∧ 1 ≤ room ∧ room ≤ 100000 ∧
  ∀ (H' : Hp) (v : V) (ts : List Th), Pool H' A (c + zs.length * 3) → Kp A H H' → TAt 10 K H' v (.tup ts) → ts.all cellB = true → ts.map fstS = zs → Q v H'
theorem div_lo {a b : Int} (h0 : 1 ≤ b) (h : b ≤ a) : 1 ≤ a / b := (Int.le_ediv_iff_mul_le (by omega)).mpr (by omega)
theorem div_hi {a b : Int} (h0 : 1 ≤ b) (h : 1 ≤ a) : a / b ≤ a := Int.ediv_le_self _ (by omega)
theorem ok_lcells {f : Addr} {fd : FuncData} (F : Fun K "_law_cells" "_law_cells" s_law_cells f fd) (T : Bi mg) (c_law_draw : Cal P w K mg base 1 "_law_draw" ["_law_pool_here", "_law_many"] spDraw) : FnOk P w K mg base CX0 2 f fd ["_law_pool_here", "_law_names_here", "_law_room"] (spLCells K) := by
  refine F.ok sc_law_cells (fun vs H Q E h => ?_) (fun cdv A outer s H vs Q E hr h => ?_)
  · obtain ⟨A, c, l, zs, room, rfl, _⟩ := h
    rfl
  · obtain ⟨PL, c, l, zs, room, rfl, P0, hc, hl, ol, gz, lz, r0, r1, q⟩ := h
    refine ⟨_, (pss_cons (ps_set (i := 3) sc_law_cells.nd rfl (.inl rfl) (pe_lst pa_nil))
      (pss_cons (ps_for PassesOwn.never rfl (pi_list (pv 1)) (pg_name (i := 4) sc_law_cells.nd rfl (.inl rfl))
        (pss_cons (ps_set (i := 5) sc_law_cells.nd rfl (.inl rfl) (pe_op op_add pe_int (pe_call c_law_draw.G hr (by rfl) c_law_draw.g c_law_draw.kp c_law_draw.b .nil pass0 (pa_cons (pv 0) (pa_cons (pe_callB (call_min2 rfl) (by rfl) T.min (by decide +kernel) (pa_cons (pe_ix ix_list (pe_lst (pa_cons pe_int (pa_cons pe_int (pa_cons pe_int pa_nil)))) (pe_call c_law_draw.G hr (by rfl) c_law_draw.g c_law_draw.kp c_law_draw.b .nil pass0 (pa_cons (pv 0) (pa_cons pe_int pa_nil))) (fun _ _ => rfl)) (pa_cons (pv 2) pa_nil))) pa_nil)))))
        (pss_cons (ps_set (i := 2) sc_law_cells.nd rfl (.inl rfl) (pe_op op_fdiv (pv 2) (pv 5)))
        (pss_one (ps_expr (pe_bm PySem.F.plainAttrs_list PySem.F.slot_list_append PySem.F.type_list_append mt_append (pv 3) (pa_cons (pe_tup (pa_cons (pv 4) (pa_cons (pv 5) (pa_cons (pe_call c_law_draw.G hr (by rfl) c_law_draw.g c_law_draw.kp c_law_draw.b .nil pass0 (pa_cons (pv 0) (pa_cons (pv 5) pa_nil))) pa_nil)))) pa_nil)))))))
      (pss_one (ps_ret (pe_callTy call_tuple_of (by rfl) T.tuple (by decide +kernel) (pa_cons (pv 3) pa_nil)))))), ?_⟩
    refine ⟨by show 0 ≤ sizeLine; decide, fun C hC => ?_⟩
    have oC := P0.off hC
    have sC := same_upd (o := .lst []) hC
    refine ⟨_, rfl, l, rfl, ⟨_, SqL.of (sC _ _ hl)⟩, for_list (K := K) (a := l) (xs := zs.map V.str) (fun i σ H' => ∃ (rm : Int) (y4 y5 : Option V) (ca : List V) (ts : List Th), σ = [some (.ref PL.p), some (.ref l), some (.int rm), some (.ref C), y4, y5] ∧ 1 ≤ rm ∧ rm ≤ 100000 ∧ Pool H' PL (c + i * 3) ∧ Kp PL H H' ∧ H' C = some (.lst ca) ∧ TAll 10 K H' ca ts ∧ ts.all cellB = true ∧ ts.map fstS = zs.take i)
      ⟨room, none, none, [], [], rfl, r0, r1, by rw [Nat.zero_mul]; exact P0.same sC, skp sC, upd_same, .nil, rfl, rfl⟩ (fun i σ H' _ ⟨_, _, _, _, _, _, _, _, _, k, _⟩ => SqL.of (k _ _ hl ol)) ?_ ?_⟩
    · rintro i x σ H1 hi ⟨rm, y4, y5, ca, ts, rfl, m0, m1, P1, K1, c1, all1, b1, f1⟩
      obtain ⟨z, hz, rfl⟩ := map_get hi
      have hil : i < zs.length := (List.getElem?_eq_some_iff.mp hz).1
      have gx := gz z (List.mem_of_getElem? hz)
      have lca : ca.length = i := by
        have e1 := congrArg List.length f1
        rw [List.length_map, List.length_take] at e1
        rw [all1.len]
        omega
      refine ⟨_, rfl, by show 3 ≤ sizeLine; decide, fun L hL => ?_⟩
      have sL := same_upd (o := .lst [.int 9, .int 3, .int 4]) hL
      refine ⟨_, rfl, PL, _, 3, rfl, P1.same sL, by omega, by decide, by decide, fun H2 y y0 y1 P2 K2 => ?_⟩
      have hL2 := K2 _ _ upd_same (P1.off hL)
      obtain ⟨n, hn, n0, n9⟩ : ∃ n : Int, atI [V.int 9, .int 3, .int 4] y = some (.int n) ∧ 1 ≤ n ∧ n ≤ 9 := by
        have : y = 0 ∨ y = 1 ∨ y = 2 := by omega
        rcases this with rfl | rfl | rfl
        · exact ⟨9, rfl, by decide, by decide⟩
        · exact ⟨3, rfl, by decide, by decide⟩
        · exact ⟨4, rfl, by decide, by decide⟩
      refine ⟨L, _, _, .int n, rfl, rfl, SqL.of hL2, hn, _, rfl, n, rm, rfl, ?_⟩
      have hmin : (if rm < n then V.int rm else V.int n) = V.int (if rm < n then rm else n) := by split <;> rfl
      refine ⟨PL, _, (if rm < n then rm else n), ?_, P2, by omega, by split <;> omega, by split <;> omega, fun H3 d d0 d1 P3 K3 => ?_⟩
      · show [V.ref PL.p, _] = _
        first
        | rfl
        | (rw [← hmin]; rfl)
      have d2 : 1 + d ≤ rm ∧ 1 + d ≤ n := by
        by_cases h : rm < n
        · rw [if_pos h] at d1
          omega
        · rw [if_neg h] at d1
          omega
      refine ⟨_, _, rfl, rfl, ?_⟩
      refine ⟨_, rfl, _, rfl, _, _, rfl, rfl, ⟨by omega, by omega⟩, ?_⟩
      have K13 := ((skp (a := PL) sL).trans K2).trans K3
      have c3 := K13 _ _ c1 oC
      refine ⟨_, rfl, .inl ⟨rfl, _, SqL.of c3⟩, _, rfl, _, rfl, _, rfl, _, rfl, PL, _, 1 + d, rfl, P3, by omega, by omega, by omega, fun H4 e e0 e1 P4 K4 => ⟨by show 3 ≤ sizeLine; decide, fun t ht => ?_⟩⟩
      have st := same_upd (o := .tup [.str z, .int (1 + d), .int e]) ht
      have c4 := st _ _ (K4 _ _ c3 oC)
      have P5 := P4.same st
      have K15 := (K13.trans K4).trans (skp (a := PL) st)
      have all5 := all1.tk (tk_kp P1 P5 K15)
      refine ⟨C, _, _, rfl, rfl, c4, szLt (by omega), ?_⟩
      have tk6 := tk_list (K := K) (ys := ca ++ [.ref t]) c4
      refine ⟨rm / (1 + d), _, _, ca ++ [.ref t], ts ++ [.tup [.str z, .int (1 + d), .int e]], rfl, div_lo (by omega) d2.1, Int.le_trans (div_hi (by omega) m0) m1, ?_, ?_, upd_same, ?_, ?_, ?_⟩
      · refine (P5.upd oC).mono ?_
        rw [Nat.succ_mul]
        omega
      · exact Kp.mut (K1.trans K15) hC
      · exact TAll.snoc (.tup (tk6.t _ _ (SqT.of upd_same)) (by show 3 ≤ 10; decide) (.cons (good_th gx) (.cons (.int _) (.cons (.int _) .nil)))) (all5.tk tk6)
      · rw [List.all_append, b1]
        show (cellB _ && true) = true
        show ((nameB (.str z) && (numB (.int (1 + d)) 1 10 && numB (.int e) 0 (1 + d))) && true) = true
        rw [good_nameB gx, num_yes (by omega) (by omega), num_yes e0 e1]
        rfl
      · rw [List.map_append, f1, List.take_add_one, hz]
        rfl
    · rintro σ H1 ⟨rm, y4, y5, ca, ts, rfl, m0, m1, P1, K1, c1, all1, b1, f1⟩
      rw [List.length_map] at P1 f1
      rw [List.take_length] at f1
      refine ⟨_, rfl, C, _, rfl, .inl ⟨SqL.of c1, fun t ht => ?_⟩⟩
      have st := same_upd (o := .tup ca) ht
      have e1 := congrArg List.length f1
      rw [List.length_map] at e1
      exact q _ _ ts (P1.same st) (K1.trans (skp st)) (.tup (SqT.of upd_same) (by rw [all1.len]; omega) (all1.tk (tk_same st))) b1 f1
end

abbrev s_law_marks : Stmt := topS 56
theorem sc_law_marks : FnScope ["_law_pool_here", "_law_names_here", "_law_cells_here", "_law_commands", "_law_keeps", "_law_marks_here", "_law_name_here", "_law_rows", "_law_k", "_law_many", "_law_j"] ["_law_pool_here", "_law_names_here", "_law_cells_here", "_law_commands", "_law_keeps"] (defScope s_law_marks) := ⟨rfl, rfl, rfl, by decide +kernel, rfl, by decide +kernel, by decide +kernel⟩
abbrev s_law_program : Stmt := topS 57
theorem sc_law_program : FnScope ["_law_pool_here", "_law_room", "_law_commands", "_law_marks_here", "_law_keeps", "_law_shared", "_law_many", "_law_called", "_law_cells_here", "_law_worn", "_law_inner", "_law_rows", "_law_name_here"] ["_law_pool_here", "_law_room", "_law_commands", "_law_marks_here"] (defScope s_law_program) := ⟨rfl, rfl, rfl, by decide +kernel, rfl, by decide +kernel, by decide +kernel⟩
section
variable {P : Program} {w : World} {K : PySem.W.Frag} {mg : Str → Option Value} {base : Heap}
def spLCommand (K : PySem.W.Frag) : Sp := fun vs H Q _ => ∃ (A : PA) (c : Nat) (z : Str) (l : Addr) (zs : List Str), vs = [.ref A.p, .str z, .ref l] ∧ Pool H A c ∧ c < 600000 ∧ GoodName z ∧ H l = some (.lst (zs.map V.str)) ∧ Off A l ∧ (∀ z ∈ zs, GoodName z) ∧ zs.Nodup ∧ 1 ≤ zs.length ∧ zs.length ≤ 4 ∧
  ∀ (H' : Hp) (v : V) (t : Th), Pool H' A (c + 38) → Kp A H H' → TAt 10 K H' v t → commandB t zs = true → fstS t = z → Q v H'
theorem ok_lcommand {f : Addr} {fd : FuncData} (F : Fun K "_law_command" "_law_command" s_law_command f fd) (T : Bi mg) (c_law_draw : Cal P w K mg base 1 "_law_draw" ["_law_pool_here", "_law_many"] spDraw) (c_law_test : Cal P w K mg base 3 "_law_test" ["_law_pool_here", "_law_names_here"] (spLTest K))
    (c_law_worth : Cal P w K mg base 2 "_law_worth" ["_law_pool_here", "_law_names_here"] (spLWorth K)) : FnOk P w K mg base CX0 4 f fd ["_law_pool_here", "_law_name_here", "_law_names_here"] (spLCommand K) := by
  refine F.ok sc_law_command (fun vs H Q E h => ?_) (fun cdv A outer s H vs Q E hr h => ?_)
  · obtain ⟨A, c, z, l, zs, rfl, _⟩ := h
    rfl
  · obtain ⟨PL, c, z0, l, zs, rfl, P0, hc, gz0, hl, ol, gz, nz, l0, l1, q⟩ := h
    refine ⟨_, (pss_cons (ps_set (i := 3) sc_law_command.nd rfl (.inl rfl) (pe_callTy call_tuple_of (by rfl) T.tuple (by decide +kernel) (pa_cons (pe_lc (own := [("_law_k", 7)]) (g := gName 7) rfl sc_law_command.nd (pi_range1 (by rfl) T.range (pa_cons (pe_ix ix_list (pe_lst (pa_cons pe_int (pa_cons pe_int (pa_cons pe_int (pa_cons pe_int (pa_cons pe_int pa_nil)))))) (pe_call c_law_draw.G (hr.mono (by decide)) (by rfl) c_law_draw.g c_law_draw.kp c_law_draw.b .nil pass0 (pa_cons (pv 0) (pa_cons pe_int pa_nil))) (fun _ _ => rfl)) pa_nil)) (blkOk_by (own := [("_law_k", 7)]) (N := ["_law_pool_here", "_law_name_here", "_law_names_here", "_law_tests", "_law_turn", "_law_some", "_law_sets", "_law_k", "_law_one"]) (sc := defScope s_law_command) (by decide +kernel)) (fun _ _ _ _ _ => (pg_name (i := 7) sc_law_command.nd rfl (.inl rfl))) (fun _ _ _ _ _ => pts_nil) (fun _ _ _ _ _ => (pe_call c_law_test.G hr (by rfl) c_law_test.g c_law_test.kp c_law_test.b .nil pass0 (pa_cons (pv 0) (pa_cons (pv 2) pa_nil))))) pa_nil)))
      (pss_cons (ps_set (i := 4) sc_law_command.nd rfl (.inl rfl) (pe_call c_law_draw.G (hr.mono (by decide)) (by rfl) c_law_draw.g c_law_draw.kp c_law_draw.b .nil pass0 (pa_cons (pv 0) (pa_cons (pe_callB call_len_seq (by rfl) T.len PySem.boot_len (pa_cons (pv 2) pa_nil)) pa_nil))))
      (pss_cons (ps_set (i := 5) sc_law_command.nd rfl (.inl rfl) (pe_op op_cat (pe_slice sl_list (pv 2) (po_some (pv 4)) po_none) (pe_slice sl_list (pv 2) po_none (po_some (pv 4)))))
      (pss_cons (ps_set (i := 6) sc_law_command.nd rfl (.inl rfl) (pe_callTy call_tuple_of (by rfl) T.tuple (by decide +kernel) (pa_cons (pe_lc (own := [("_law_one", 8)]) (g := gName 8) rfl sc_law_command.nd (pi_list (pv 5)) (blkOk_by (own := [("_law_one", 8)]) (N := ["_law_pool_here", "_law_name_here", "_law_names_here", "_law_tests", "_law_turn", "_law_some", "_law_sets", "_law_k", "_law_one"]) (sc := defScope s_law_command) (by decide +kernel)) (fun _ _ _ _ _ => (pg_name (i := 8) sc_law_command.nd rfl (.inl rfl))) (fun _ _ _ _ _ => (pts_one (pt_cmpR op_gt (pe_call c_law_draw.G (hr.mono (by decide)) (by rfl) c_law_draw.g c_law_draw.kp c_law_draw.b .nil pass0 (pa_cons (pv 0) (pa_cons pe_int pa_nil))) pe_int (nomark _)))) (fun _ _ _ _ _ => (pe_tup (pa_cons (pv 8) (pa_cons (pe_call c_law_worth.G (hr.mono (by decide)) (by rfl) c_law_worth.g c_law_worth.kp c_law_worth.b .nil pass0 (pa_cons (pv 0) (pa_cons (pv 2) pa_nil))) pa_nil))))) pa_nil)))
      (pss_one (ps_ret (pe_tup (pa_cons (pv 1) (pa_cons (pv 3) (pa_cons (pv 6) pa_nil)))))))))), ?_⟩
    refine ⟨by show 5 ≤ sizeLine; decide, fun L hL => ?_⟩
    have sL := same_upd (o := .lst [.int 0, .int 1, .int 1, .int 2, .int 4]) hL
    refine ⟨_, rfl, PL, _, 5, rfl, P0.same sL, by omega, by decide, by decide, fun H1 y y0 y1 P1 K1 => ?_⟩
    have hL1 := K1 _ _ upd_same (P0.off hL)
    obtain ⟨n, hn, n4⟩ : ∃ n : Nat, atI [V.int 0, .int 1, .int 1, .int 2, .int 4] y = some (.int n) ∧ n ≤ 4 := by
      have : y = 0 ∨ y = 1 ∨ y = 2 ∨ y = 3 ∨ y = 4 := by omega
      rcases this with rfl | rfl | rfl | rfl | rfl
      · exact ⟨0, rfl, by decide⟩
      · exact ⟨1, rfl, by decide⟩
      · exact ⟨1, rfl, by decide⟩
      · exact ⟨2, rfl, by decide⟩
      · exact ⟨4, rfl, by decide⟩
    have K01 := (skp (a := PL) sL).trans K1
    have hl1 := K01 _ _ hl ol
    refine ⟨L, _, _, .int n, rfl, rfl, SqL.of hL1, hn, (n : Int), rfl, by omega, by omega, fun D hD => lc_rangeT (a := PL) 5 (fun i H' acc => ∃ ts, TAll 10 K H' acc ts ∧ ts.all (testB · zs) = true ∧ ts.length = i) (fun i H H' acc k ⟨ts, x, y⟩ => ⟨ts, x.tk k, y⟩) P1 hD (by omega) (fun _ => ⟨[], .nil, rfl, rfl⟩) (fun _ => rfl) ?_ ?_⟩
    · rintro i H2 acc hi P2 K2 ⟨ts, all, bt, lt⟩ _ N1 N2 k1 k2
      refine ⟨_, rfl, _, rfl, PL, _, l, zs, rfl, P2, by omega, K2 _ _ hl1 ol, ol, gz, l0, by omega, fun H3 v t P3 K3 xt bt3 => k1 v H3 P3 K3 ⟨ts ++ [t], TAll.snoc xt (all.tk (tk_kp P2 P3 K3)), ?_, ?_⟩⟩
      · rw [List.all_append, bt]
        show (testB t zs && true) = true
        rw [bt3]
        rfl
      · rw [List.length_append, lt]
        rfl
    rintro H2 acc P2 K2 hD2 lacc ⟨ts, all2, bt, lt⟩ oD
    have hn2 : ((n : Int) - 0).toNat = n := by omega
    refine ⟨D, _, rfl, .inl ⟨SqL.of hD2, fun t ht => ?_⟩⟩
    have st := same_upd (o := .tup acc) ht
    have K03 := (K01.trans K2).trans (skp (a := PL) st)
    have hl3 := K03 _ _ hl ol
    have P3 := P2.same st
    have xt3 : TAt 10 K (L2.upd H2 t (.tup acc)) (.ref t) (.tup ts) := .tup (SqT.of upd_same) (by omega) (all2.tk (tk_same st))
    generalize L2.upd H2 t (.tup acc) = H3 at K03 hl3 P3 xt3
    refine ⟨_, rfl, _, rfl, l, _, rfl, .inl (SqL.of hl3), PL, _, (zs.length : Nat), by rw [List.length_map]; rfl, P3, by omega, by omega, by omega, fun H4 x x0 x1 P4 K4 => ?_⟩
    obtain ⟨x, rfl⟩ : ∃ j : Nat, x = (j : Int) := ⟨x.toNat, by omega⟩
    have hl4 := K4 _ _ hl3 ol
    have xt4 := xt3.tk (tk_kp P3 P4 K4)
    refine ⟨_, rfl, _, rfl, x, rfl, l, _, rfl, SqL.of hl4, fun B hB => ?_⟩
    have sB := same_upd (o := .lst (cutV (zs.map V.str) (some (x : Int)) none)) hB
    refine ⟨_, rfl, _, rfl, x, rfl, l, _, rfl, SqL.of (sB _ _ hl4), fun C hC => ?_⟩
    have sC := same_upd (o := .lst (cutV (zs.map V.str) none (some (x : Int)))) hC
    have eB : cutV (zs.map V.str) (some (x : Int)) none = (zs.drop x).map V.str := by
      rw [cut_from (by rw [List.length_map]; omega), List.map_drop]
    have eC : cutV (zs.map V.str) none (some (x : Int)) = (zs.take x).map V.str := by
      rw [cut_to, List.map_take]
    refine ⟨B, C, (zs.drop x).map V.str, (zs.take x).map V.str, rfl, rfl, ?_, ?_, szOk (by rw [List.length_map, List.length_map, List.length_drop, List.length_take]; omega), fun M hM => ?_⟩
    · rw [← eB]
      exact sC _ _ upd_same
    · rw [← eC]
      exact upd_same
    have sM := same_upd (o := .lst ((zs.drop x).map V.str ++ (zs.take x).map V.str)) hM
    have s5 := (sB.trans sC).trans sM
    have oM := (P4.same (sB.trans sC)).off hM
    have hM5 : (L2.upd (L2.upd (L2.upd H4 B (.lst (cutV (zs.map V.str) (some (x : Int)) none))) C (.lst (cutV (zs.map V.str) none (some (x : Int))))) M (.lst ((zs.drop x).map V.str ++ (zs.take x).map V.str))) M = some (.lst ((zs.drop x ++ zs.take x).map V.str)) := by
      rw [upd_same, List.map_append]
    have P5 := P4.same s5
    have hl5 := s5 _ _ hl4
    have xt5 := xt4.same s5
    have K05 := (K03.trans K4).trans (skp (a := PL) s5)
    have nr : (zs.drop x ++ zs.take x).Nodup := (List.perm_append_comm.trans (by rw [List.take_append_drop])).nodup_iff.mpr nz
    have mr : ∀ z ∈ zs.drop x ++ zs.take x, z ∈ zs := fun z hz => (List.mem_append.mp hz).elim List.mem_of_mem_drop List.mem_of_mem_take
    have lr : (zs.drop x ++ zs.take x).length = zs.length := by
      rw [List.length_append, List.length_drop, List.length_take]
      omega
    generalize L2.upd (L2.upd (L2.upd H4 B (.lst (cutV (zs.map V.str) (some (x : Int)) none))) C (.lst (cutV (zs.map V.str) none (some (x : Int))))) M (.lst ((zs.drop x).map V.str ++ (zs.take x).map V.str)) = H5 at hM5 P5 hl5 xt5 K05 ⊢
    generalize zs.drop x ++ zs.take x = rot at nr mr lr hM5
    refine ⟨_, rfl, M, rfl, ⟨_, SqL.of hM5⟩, fun D2 hD2 => lc_listT (a := M) (A := PL) 4 (fun i H' acc => ∃ ss, TAll 10 K H' acc ss ∧ ss.all (setRowB · zs) = true ∧ (ss.map fstS).Sublist (rot.take i)) (fun i H H' acc k ⟨ts, x, y⟩ => ⟨ts, x.tk k, y⟩) P5 hM5 oM hD2 (by rw [List.length_map]; omega) (fun _ => ⟨[], .nil, rfl, List.nil_sublist _⟩) (fun _ => rfl) ?_ ?_⟩
    · rintro i v H6 acc hi P6 K6 ⟨ss, all, bs, sub⟩ _ N1 N2 k1 k2
      obtain ⟨z, hz, rfl⟩ := map_get hi
      have hir : i < rot.length := (List.getElem?_eq_some_iff.mp hz).1
      have mz := mr z (List.mem_of_getElem? hz)
      have et : rot.take (i + 1) = rot.take i ++ [z] := by
        rw [List.take_add_one, hz]
        rfl
      have hl6 := K6 _ _ hl5 ol
      refine ⟨_, rfl, PL, _, 3, rfl, P6, by omega, by decide, by decide, fun H7 d _ _ P7 K7 => ⟨_, _, rfl, rfl, _, rfl, ite2 (fun e => ?_) (fun e => ?_)⟩⟩
      · refine ⟨_, rfl, _, rfl, _, rfl, PL, _, l, zs, rfl, P7, by omega, K7 _ _ hl6 ol, ol, gz, l0, by omega, fun H8 v t P8 K8 xt wt => ⟨by show 2 ≤ sizeLine; decide, fun p hp => ?_⟩⟩
        have sp := same_upd (o := .tup [.str z, v]) hp
        have P9 := P8.same sp
        have K9 := (K7.trans K8).trans (skp (a := PL) sp)
        refine k1 _ _ P9 K9 ⟨ss ++ [.tup [.str z, t]], TAll.snoc (.tup (SqT.of upd_same) (by show 2 ≤ 10; decide) (.cons (good_th (gz z mz)) (.cons (xt.same sp) .nil))) (all.tk (tk_kp P6 P9 K9)), ?_, ?_⟩
        · rw [List.all_append, bs]
          show ((ofB (.str z) zs && worthB t zs) && true) = true
          rw [good_ofB (gz z mz) mz, wt]
          rfl
        · rw [List.map_append, et]
          exact sub.append (List.Sublist.refl _)
      · refine k2 _ (P7.mono (by omega)) K7 ⟨ss, all.tk (tk_kp P6 P7 K7), bs, ?_⟩
        rw [et]
        exact sub.trans (List.sublist_append_left _ _)
    rintro H6 acc6 P6 K6 hD6 lacc6 ⟨ss, all6, bs, sub⟩ oD6
    rw [List.length_map] at P6 sub lacc6
    rw [List.take_length] at sub
    refine ⟨D2, _, rfl, .inl ⟨SqL.of hD6, fun t2 ht2 => ?_⟩⟩
    have st2 := same_upd (o := .tup acc6) ht2
    refine ⟨_, rfl, _, rfl, _, rfl, by show 3 ≤ sizeLine; decide, fun p hp => ?_⟩
    have sp := same_upd (o := .tup [.str z0, .ref t, .ref t2]) hp
    have s26 := st2.trans sp
    have lss : ss.length ≤ 4 := by
      rw [← all6.len]
      omega
    refine q _ _ (.tup [.str z0, .tup ts, .tup ss]) ((P6.same s26).mono (by omega)) ((K05.trans K6).trans (skp s26)) (.tup (SqT.of upd_same) (by show 3 ≤ 10; decide) (.cons (good_th gz0) (.cons ((xt5.tk (tk_kp P5 P6 K6)).same s26) (.cons (.tup (ssqt sp (SqT.of upd_same)) (by omega) (all6.tk (tk_same s26))) .nil)))) ?_ rfl
    rw [command_eq, good_nameB gz0, decide_eq_true (show ts.length ≤ 4 by omega), decide_eq_true lss, bt, bs, decide_eq_true (nr.sublist sub)]
    rfl
def spLAsk (K : PySem.W.Frag) : Sp := fun vs H Q _ => ∃ (A : PA) (c : Nat) (l m : Addr) (zs ys : List Str) (k : Bool), vs = [.ref A.p, .ref l, .ref m, .bl k] ∧ Pool H A c ∧ c < 600000 ∧ H l = some (.lst (zs.map V.str)) ∧ Off A l ∧ (∀ z ∈ zs, GoodName z) ∧ 1 ≤ zs.length ∧ zs.length ≤ 4 ∧
  H m = some (.lst (ys.map V.str)) ∧ Off A m ∧ (∀ z ∈ ys, GoodName z) ∧ ys.length ≤ 8 ∧ ∀ (H' : Hp) (v : V) (t : Th), Pool H' A (c + 6) → Kp A H H' → TAt 10 K H' v t → askB t zs ys k = true → Q v H'
theorem ok_lask {f : Addr} {fd : FuncData} (F : Fun K "_law_ask" "_law_ask" s_law_ask f fd) (T : Bi mg) (c_law_draw : Cal P w K mg base 1 "_law_draw" ["_law_pool_here", "_law_many"] spDraw) (c_law_test : Cal P w K mg base 3 "_law_test" ["_law_pool_here", "_law_names_here"] (spLTest K)) :
    FnOk P w K mg base CX0 4 f fd ["_law_pool_here", "_law_cells_here", "_law_commands", "_law_keeps"] (spLAsk K) := by
  refine F.ok sc_law_ask (fun vs H Q E h => ?_) (fun cdv A outer s H vs Q E hr h => ?_)
  · obtain ⟨A, c, l, m, zs, ys, k, rfl, _⟩ := h
    rfl
  · obtain ⟨PL, c, l, m, zs, ys, k, rfl, P0, hc, hl, ol, gz, l0, l1, hm, om, gy, ly, q⟩ := h
    refine ⟨_, (pss_cons (ps_if (PW.pt (pw_and (pt_cmpR op_gt (pe_callB call_len_seq (by rfl) T.len PySem.boot_len (pa_cons (pv 2) pa_nil)) pe_int (nomark _)) (pw_and1 (pt_cmpR op_eq (pe_call c_law_draw.G (hr.mono (by decide)) (by rfl) c_law_draw.g c_law_draw.kp c_law_draw.b .nil pass0 (pa_cons (pv 0) (pa_cons pe_int pa_nil))) pe_int (nomark _)))))
        (pss_cons (ps_set (i := 4) sc_law_ask.nd rfl (.inl rfl) (pe_ix ix_list (pe_lst (pa_cons pe_str (pa_cons pe_str pa_nil))) (pe_call c_law_draw.G (hr.mono (by decide)) (by rfl) c_law_draw.g c_law_draw.kp c_law_draw.b .nil pass0 (pa_cons (pv 0) (pa_cons (pe_op op_add pe_int (pe_callTy call_int1 (by rfl) T.int (by decide +kernel) (pa_cons (pv 3) pa_nil))) pa_nil))) (fun _ _ => rfl)))
        (pss_one (ps_ret (pe_tup (pa_cons (pv 4) (pa_cons (pe_ix ix_list (pv 2) (pe_call c_law_draw.G (hr.mono (by decide)) (by rfl) c_law_draw.g c_law_draw.kp c_law_draw.b .nil pass0 (pa_cons (pv 0) (pa_cons (pe_callB call_len_seq (by rfl) T.len PySem.boot_len (pa_cons (pv 2) pa_nil)) pa_nil))) (fun _ _ => rfl)) pa_nil))))))
        pss_nil)
      (pss_one (ps_ret (pe_call c_law_test.G hr (by rfl) c_law_test.g c_law_test.kp c_law_test.b .nil pass0 (pa_cons (pv 0) (pa_cons (pv 1) pa_nil)))))), ?_⟩
    refine ⟨_, rfl, m, _, rfl, .inl (SqL.of hm), _, _, rfl, rfl, _, rfl, ite2 (fun e => ?_) (fun e => ?_)⟩
    · have lm : 0 < ys.length := by
        have := of_decide_eq_true e
        rw [List.length_map] at this
        omega
      refine ⟨_, rfl, PL, _, 2, rfl, P0, by omega, by decide, by decide, fun H1 d _ _ P1 K1 => ⟨rfl, _, rfl, ite2 (fun e1 => ?_) (fun e1 => ?_)⟩⟩
      · refine ⟨by show 2 ≤ sizeLine; decide, fun L hL => ?_⟩
        have sL := same_upd (o := .lst [.str "can", .str "last"]) hL
        have hm1 := sL _ _ (K1 _ _ hm om)
        have fin : ∀ (H2 : Hp) (x : Str), Pool H2 PL (c + 2) → Kp PL (L2.upd H1 L (.lst [.str "can", .str "last"])) H2 → x ∈ asksL → (k || decide (x = Str.ofString "can")) = true → ∀ H3 (j : Nat) (hj : j < ys.length), Pool H3 PL (c + 3) → Kp PL H2 H3 → ∀ p, H3 p = none →
            Q (.ref p) (L2.upd H3 p (.tup [.str x, .str ys[j]])) := fun H2 x P2 K2 hx hk H3 j hj P3 K3 p hp => by
          have sp := same_upd (o := .tup [.str x, .str ys[j]]) hp
          have gj := gy _ (List.getElem_mem hj)
          have hxg : x.length ≤ 100 ∧ ∀ c ∈ x.cps.toList, c < 1114112 := by
            have : ∀ z ∈ asksL, z.length ≤ 100 ∧ ∀ c ∈ z.cps.toList, c < 1114112 := by decide +kernel
            exact this x hx
          refine q _ _ (.tup [.str x, .str ys[j]]) ((P3.same sp).mono (by omega)) ((((K1.trans (skp sL)).trans K2).trans K3).trans (skp sp)) (.tup (SqT.of upd_same) (by show 2 ≤ 10; decide) (.cons (.str x hxg.1 hxg.2) (.cons (good_th gj) .nil))) ?_
          rw [ask_eq, decide_eq_true hx, good_ofB gj (List.getElem_mem hj), hk]
          rfl
        refine ⟨_, rfl, _, rfl, .inr ⟨k, rfl, _, _, rfl, rfl, PL, _, 1 + (if k = true then 1 else 0), by cases k <;> rfl, P1.same sL, by omega, by cases k <;> decide, by cases k <;> decide, fun H2 d d0 d1 P2 K2 => ?_⟩⟩
        obtain ⟨x, hx, hx2, hx3⟩ : ∃ x : Str, atI [V.str "can", .str "last"] d = some (.str x) ∧ x ∈ asksL ∧ (k || decide (x = Str.ofString "can")) = true := by
          have : d = 0 ∨ d = 1 := by
            cases k <;> simp at d1 <;> omega
          rcases this with rfl | rfl
          · exact ⟨"can", rfl, by decide +kernel, by cases k <;> decide +kernel⟩
          · cases k with
            | true => exact ⟨"last", rfl, by decide +kernel, rfl⟩
            | false => simp at d1
        have hL2 := K2 _ _ upd_same (P1.off hL)
        refine ⟨L, _, _, .str x, rfl, rfl, SqL.of hL2, hx, ?_⟩
        refine ⟨_, rfl, _, rfl, _, rfl, _, rfl, m, _, rfl, .inl (SqL.of (K2 _ _ hm1 om)), PL, _, (ys.length : Nat), by rw [List.length_map]; rfl, P2, by omega, by omega, by omega, fun H3 j j0 j1 P3 K3 => ?_⟩
        obtain ⟨j, rfl⟩ : ∃ i : Nat, j = (i : Int) := ⟨j.toNat, by omega⟩
        have hj : j < ys.length := by omega
        exact ⟨m, _, _, .str ys[j], rfl, rfl, SqL.of (K3 _ _ (K2 _ _ hm1 om) om), at_len hj, by show 2 ≤ sizeLine; decide, fun p hp => fin H2 x P2 K2 hx2 hx3 H3 j hj P3 K3 p hp⟩
      · exact ⟨_, rfl, _, rfl, PL, _, l, zs, rfl, P1, by omega, K1 _ _ hl ol, ol, gz, l0, by omega, fun H2 v t P2 K2 xt bt => q H2 v t (P2.mono (by omega)) (K1.trans K2) xt (test_ask bt)⟩
    · exact ⟨_, rfl, _, rfl, PL, _, l, zs, rfl, P0, by omega, hl, ol, gz, l0, by omega, fun H2 v t P2 K2 xt bt => q H2 v t (P2.mono (by omega)) K2 xt (test_ask bt)⟩
end

section
variable {P : Program} {w : World} {K : PySem.W.Frag} {mg : Str → Option Value} {base : Heap}
def spLMarks (K : PySem.W.Frag) : Sp := fun vs H Q _ => ∃ (A : PA) (c : Nat) (n l m : Addr) (ws zs ys : List Str) (k : Bool), vs = [.ref A.p, .ref n, .ref l, .ref m, .bl k] ∧ Pool H A c ∧ c < 500000 ∧ H n = some (.lst (ws.map V.str)) ∧ Off A n ∧ (∀ z ∈ ws, GoodName z) ∧ ws.length ≤ 8 ∧
  H l = some (.lst (zs.map V.str)) ∧ Off A l ∧ (∀ z ∈ zs, GoodName z) ∧ 1 ≤ zs.length ∧ zs.length ≤ 4 ∧ H m = some (.lst (ys.map V.str)) ∧ Off A m ∧ (∀ z ∈ ys, GoodName z) ∧ ys.length ≤ 8 ∧
  ∀ (H' : Hp) (v : V) (ts : List Th), Pool H' A (c + ws.length * 101) → Kp A H H' → TAt 10 K H' v (.tup ts) → ts.all (markB · zs ys k) = true → ts.map fstS = ws → Q v H'
theorem ok_lmarks {f : Addr} {fd : FuncData} (F : Fun K "_law_marks" "_law_marks" s_law_marks f fd) (T : Bi mg) (c_law_draw : Cal P w K mg base 1 "_law_draw" ["_law_pool_here", "_law_many"] spDraw) (c_law_ask : Cal P w K mg base 4 "_law_ask" ["_law_pool_here", "_law_cells_here", "_law_commands", "_law_keeps"] (spLAsk K)) :
    FnOk P w K mg base CX0 5 f fd ["_law_pool_here", "_law_names_here", "_law_cells_here", "_law_commands", "_law_keeps"] (spLMarks K) := by
  refine F.ok sc_law_marks (fun vs H Q E h => ?_) (fun cdv A outer s H vs Q E hr h => ?_)
  · obtain ⟨A, c, n, l, m, ws, zs, ys, k, rfl, _⟩ := h
    rfl
  · obtain ⟨PL, c, n, l, m, ws, zs, ys, k, rfl, P0, hc, hn, on, gw, lw, hl, ol, gz, l0, l1, hm, om, gy, ly, q⟩ := h
    refine ⟨_, (pss_cons (ps_set (i := 5) sc_law_marks.nd rfl (.inl rfl) (pe_lst pa_nil))
      (pss_cons (ps_for PassesOwn.never rfl (pi_list (pv 1)) (pg_name (i := 6) sc_law_marks.nd rfl (.inl rfl))
        (pss_cons (ps_set (i := 7) sc_law_marks.nd rfl (.inl rfl) (pe_lst pa_nil))
        (pss_cons (ps_for PassesOwn.never rfl (pi_range1 (by rfl) T.range (pa_cons (pe_ix ix_list (pe_lst (pa_cons pe_int (pa_cons pe_int (pa_cons pe_int (pa_cons pe_int (pa_cons pe_int (pa_cons pe_int pa_nil))))))) (pe_call c_law_draw.G (hr.mono (by decide)) (by rfl) c_law_draw.g c_law_draw.kp c_law_draw.b .nil pass0 (pa_cons (pv 0) (pa_cons pe_int pa_nil))) (fun _ _ => rfl)) pa_nil)) (pg_name (i := 8) sc_law_marks.nd rfl (.inl rfl))
          (pss_cons (ps_set (i := 9) sc_law_marks.nd rfl (.inl rfl) (pe_ix ix_list (pe_lst (pa_cons pe_int (pa_cons pe_int (pa_cons pe_int (pa_cons pe_int (pa_cons pe_int (pa_cons pe_int pa_nil))))))) (pe_call c_law_draw.G (hr.mono (by decide)) (by rfl) c_law_draw.g c_law_draw.kp c_law_draw.b .nil pass0 (pa_cons (pv 0) (pa_cons pe_int pa_nil))) (fun _ _ => rfl)))
          (pss_one (ps_expr (pe_bm PySem.F.plainAttrs_list PySem.F.slot_list_append PySem.F.type_list_append mt_append (pv 7) (pa_cons (pe_callTy call_tuple_of (by rfl) T.tuple (by decide +kernel) (pa_cons (pe_lc (own := [("_law_j", 10)]) (g := gName 10) rfl sc_law_marks.nd (pi_range1 (by rfl) T.range (pa_cons (pv 9) pa_nil)) (blkOk_by (own := [("_law_j", 10)]) (N := ["_law_pool_here", "_law_names_here", "_law_cells_here", "_law_commands", "_law_keeps", "_law_marks_here", "_law_name_here", "_law_rows", "_law_k", "_law_many", "_law_j"]) (sc := defScope s_law_marks) (by decide +kernel)) (fun _ _ _ _ _ => (pg_name (i := 10) sc_law_marks.nd rfl (.inl rfl))) (fun _ _ _ _ _ => pts_nil) (fun _ _ _ _ _ => (pe_call c_law_ask.G hr (by rfl) c_law_ask.g c_law_ask.kp c_law_ask.b .nil pass0 (pa_cons (pv 0) (pa_cons (pv 2) (pa_cons (pv 3) (pa_cons (pv 4) pa_nil))))))) pa_nil)) pa_nil))))))
        (pss_one (ps_expr (pe_bm PySem.F.plainAttrs_list PySem.F.slot_list_append PySem.F.type_list_append mt_append (pv 5) (pa_cons (pe_tup (pa_cons (pv 6) (pa_cons (pe_callTy call_tuple_of (by rfl) T.tuple (by decide +kernel) (pa_cons (pv 7) pa_nil)) pa_nil))) pa_nil)))))))
      (pss_one (ps_ret (pe_callTy call_tuple_of (by rfl) T.tuple (by decide +kernel) (pa_cons (pv 5) pa_nil)))))), ?_⟩
    refine ⟨by show 0 ≤ sizeLine; decide, fun C hC => ?_⟩
    have oC := P0.off hC
    have sC := same_upd (o := .lst []) hC
    refine ⟨_, rfl, n, rfl, ⟨_, SqL.of (sC _ _ hn)⟩, for_list (K := K) (a := n) (xs := ws.map V.str) (fun i σ H' => ∃ (y6 y7 y8 y9 : Option V) (ca : List V) (ts : List Th), σ = [some (.ref PL.p), some (.ref n), some (.ref l), some (.ref m), some (.bl k), some (.ref C), y6, y7, y8, y9, none] ∧ Pool H' PL (c + i * 101) ∧ Kp PL H H' ∧ H' C = some (.lst ca) ∧ TAll 10 K H' ca ts ∧ ts.all (markB · zs ys k) = true ∧ ts.map fstS = ws.take i)
      ⟨none, none, none, none, [], [], rfl, by rw [Nat.zero_mul]; exact P0.same sC, skp sC, upd_same, .nil, rfl, rfl⟩ (fun i σ H' _ ⟨_, _, _, _, _, _, _, _, k, _⟩ => SqL.of (k _ _ hn on)) ?_ ?_⟩
    · rintro i x σ H1 hi ⟨y6, y7, y8, y9, ca, ts, rfl, P1, K1, c1, all1, b1, f1⟩
      obtain ⟨z, hz, rfl⟩ := map_get hi
      have hil : i < ws.length := (List.getElem?_eq_some_iff.mp hz).1
      have gx := gw z (List.mem_of_getElem? hz)
      have lca : ca.length = i := by
        have e1 := congrArg List.length f1
        rw [List.length_map, List.length_take] at e1
        rw [all1.len]
        omega
      refine ⟨by show 0 ≤ sizeLine; decide, fun R hR => ?_⟩
      have sR := same_upd (o := .lst []) hR
      have oR := P1.off hR
      have hR0 := K1.free hR oR
      refine ⟨by show 6 ≤ sizeLine; decide, fun L hL => ?_⟩
      have sL := same_upd (o := .lst [.int 1, .int 0, .int 1, .int 2, .int 1, .int 4]) hL
      have P2 := (P1.same sR).same sL
      refine ⟨_, rfl, PL, _, 6, rfl, P2, by omega, by decide, by decide, fun H2 d d0 d1 P3 K3 => ?_⟩
      have hL2 := K3 _ _ upd_same ((P1.same sR).off hL)
      obtain ⟨r, hr2, r4⟩ : ∃ r : Nat, atI [V.int 1, .int 0, .int 1, .int 2, .int 1, .int 4] d = some (.int r) ∧ r ≤ 4 := by
        have : d = 0 ∨ d = 1 ∨ d = 2 ∨ d = 3 ∨ d = 4 ∨ d = 5 := by omega
        rcases this with rfl | rfl | rfl | rfl | rfl | rfl
        · exact ⟨1, rfl, by decide⟩
        · exact ⟨0, rfl, by decide⟩
        · exact ⟨1, rfl, by decide⟩
        · exact ⟨2, rfl, by decide⟩
        · exact ⟨1, rfl, by decide⟩
        · exact ⟨4, rfl, by decide⟩
      have K13 := ((skp (a := PL) sR).trans (skp sL)).trans K3
      have K03 : Kp PL H H2 := K1.trans K13
      have c3 := K13 _ _ c1 oC
      have R3 := K3 _ _ (sL _ _ (show (L2.upd H1 R (.lst [])) R = _ from upd_same)) oR
      have all3 := all1.tk (tk_kp P1 P3 K13)
      refine ⟨L, _, _, .int r, rfl, rfl, SqL.of hL2, hr2, (r : Int), rfl, by omega, by omega, for_range (lo := 0) (n := ((r : Int) - 0).toNat) (fun i2 σ H' => ∃ (y8 y9 : Option V) (ra : List V) (rs : List Th), σ = [some (.ref PL.p), some (.ref n), some (.ref l), some (.ref m), some (.bl k), some (.ref C), some (.str z), some (.ref R), y8, y9, none] ∧ Pool H' PL (c + i * 101 + 1 + i2 * 25) ∧ Kp PL H H' ∧ H' C = some (.lst ca) ∧ TAll 10 K H' ca ts ∧ H' R = some (.lst ra) ∧ TAll 10 K H' ra rs ∧ rs.all (askRowB · zs ys k) = true ∧ rs.length = i2)
        ⟨y8, y9, [], [], rfl, by rw [Nat.zero_mul]; exact P3, K03, c3, all3, R3, .nil, rfl, rfl⟩ ?_ ?_⟩
      · rintro i2 σ H3 hi2 ⟨y8, y9, ra, rs, rfl, P4, K4, c4, all4, R4, rall4, rb4, rl4⟩
        have lra : ra.length = i2 := by rw [rall4.len, rl4]
        refine ⟨by show 6 ≤ sizeLine; decide, fun L2 hL2 => ?_⟩
        have sL2 := same_upd (o := .lst [.int 1, .int 0, .int 1, .int 2, .int 4, .int 1]) hL2
        refine ⟨_, rfl, PL, _, 6, rfl, P4.same sL2, by omega, by decide, by decide, fun H4 d d0 d1 P5 K5 => ?_⟩
        have hL4 := K5 _ _ upd_same (P4.off hL2)
        obtain ⟨j, hj2, j4⟩ : ∃ r : Nat, atI [V.int 1, .int 0, .int 1, .int 2, .int 4, .int 1] d = some (.int r) ∧ r ≤ 4 := by
          have : d = 0 ∨ d = 1 ∨ d = 2 ∨ d = 3 ∨ d = 4 ∨ d = 5 := by omega
          rcases this with rfl | rfl | rfl | rfl | rfl | rfl
          · exact ⟨1, rfl, by decide⟩
          · exact ⟨0, rfl, by decide⟩
          · exact ⟨1, rfl, by decide⟩
          · exact ⟨2, rfl, by decide⟩
          · exact ⟨4, rfl, by decide⟩
          · exact ⟨1, rfl, by decide⟩
        have K45 := (skp (a := PL) sL2).trans K5
        have K05 := K4.trans K45
        have tk5 := tk_kp (K := K) P4 P5 K45
        have R5 := K45 _ _ R4 oR
        have c5 := K45 _ _ c4 oC
        refine ⟨L2, _, _, .int j, rfl, rfl, SqL.of hL4, hj2, ?_⟩
        refine ⟨_, rfl, .inl ⟨rfl, _, SqL.of R5⟩, _, rfl, (j : Int), rfl, by omega, by omega, fun D hD => lc_rangeT (a := PL) 6 (fun i H' acc => ∃ as, TAll 10 K H' acc as ∧ as.all (askB · zs ys k) = true ∧ as.length = i) (fun i H H' acc k ⟨ts, x, y⟩ => ⟨ts, x.tk k, y⟩) P5 hD (by omega) (fun _ => ⟨[], .nil, rfl, rfl⟩) (fun _ => rfl) ?_ ?_⟩
        · rintro i3 H5 acc hi3 P6 K6 ⟨as, all, bt, lt⟩ _ N1 N2 k1 k2
          have K06 := K05.trans K6
          refine ⟨_, rfl, _, rfl, _, rfl, _, rfl, PL, _, l, m, zs, ys, k, rfl, P6, by omega, K06 _ _ hl ol, ol, gz, l0, l1, K06 _ _ hm om, om, gy, ly, fun H6 v t P7 K7 xt bt3 => k1 v H6 P7 K7 ⟨as ++ [t], TAll.snoc xt (all.tk (tk_kp P6 P7 K7)), ?_, ?_⟩⟩
          · rw [List.all_append, bt]
            show (askB t zs ys k && true) = true
            rw [bt3]
            rfl
          · rw [List.length_append, lt]
            rfl
        rintro H5 acc P6 K6 hD5 lacc ⟨as, all5, bt5, lt5⟩ oD
        have hj0 : ((j : Int) - 0).toNat = j := by omega
        refine ⟨D, _, rfl, .inl ⟨SqL.of hD5, fun t ht => ?_⟩⟩
        have st := same_upd (o := .tup acc) ht
        have K67 := K6.trans (skp (a := PL) st)
        have P7 := P6.same st
        have tk7 := tk_kp (K := K) P5 P7 K67
        have R7 := K67 _ _ R5 oR
        have c7 := K67 _ _ c5 oC
        have nCR : C ≠ R := fun e => by
          have z1 := K1.free hR oR
          rw [← e] at hR
          rw [hR] at c1
          cases c1
        refine ⟨R, _, _, rfl, rfl, R7, szLt (by omega), ?_⟩
        have tk8 := tk_list (K := K) (ys := ra ++ [.ref t]) R7
        refine ⟨some (.int (0 + i2)), some (.int j), ra ++ [.ref t], rs ++ [.tup as], rfl, ?_, ?_, ?_, ((all4.tk tk5).tk tk7).tk tk8, upd_same, ?_, ?_, ?_⟩
        · refine (P7.upd oR).mono ?_
          rw [Nat.succ_mul]
          omega
        · exact Kp.mut (K05.trans K67) hR0
        · rw [upd_ne nCR]
          exact c7
        · exact TAll.snoc (.tup (tk8.t _ _ (SqT.of upd_same)) (by omega) ((all5.tk (tk_same st)).tk tk8)) (((rall4.tk tk5).tk tk7).tk tk8)
        · rw [List.all_append, rb4]
          show ((decide (as.length ≤ 4) && as.all (askB · zs ys k)) && true) = true
          rw [decide_eq_true (show as.length ≤ 4 by omega), bt5]
          rfl
        · rw [List.length_append, rl4]
          rfl
      · rintro σ H3 ⟨y8, y9, ra, rs, rfl, P4, K4, c4, all4, R4, rall4, rb4, rl4⟩
        have hr0 : ((r : Int) - 0).toNat = r := by omega
        rw [hr0] at P4 rl4
        refine ⟨_, rfl, .inl ⟨rfl, _, SqL.of c4⟩, _, rfl, _, rfl, R, _, rfl, .inl ⟨SqL.of R4, fun t ht => ⟨by show 2 ≤ sizeLine; decide, fun p hp => ?_⟩⟩⟩
        have st := same_upd (o := .tup ra) ht
        have sp := same_upd (o := .tup [.str z, .ref t]) hp
        have s5 := st.trans sp
        have c5 := s5 _ _ c4
        refine ⟨C, _, _, rfl, rfl, c5, szLt (by omega), ?_⟩
        have tk6 := tk_list (K := K) (ys := ca ++ [.ref p]) c5
        have tk5 := tk_same (K := K) s5
        refine ⟨some (.str z), some (.ref R), y8, y9, ca ++ [.ref p], ts ++ [.tup [.str z, .tup rs]], rfl, ?_, ?_, upd_same, ?_, ?_, ?_⟩
        · refine ((P4.same s5).upd oC).mono ?_
          rw [Nat.succ_mul]
          omega
        · exact Kp.mut (K4.trans (skp s5)) hC
        · exact TAll.snoc (.tup (tk6.t _ _ (SqT.of upd_same)) (by show 2 ≤ 10; decide) (.cons (good_th gx) (.cons (.tup (tk6.t _ _ (ssqt sp (SqT.of upd_same))) (by rw [rall4.len]; omega) ((rall4.tk tk5).tk tk6)) .nil))) ((all4.tk tk5).tk tk6)
        · rw [List.all_append, b1]
          show (markB (.tup [.str z, .tup rs]) zs ys k && true) = true
          rw [mark_eq, good_nameB gx, decide_eq_true (show rs.length ≤ 4 by omega), rb4]
          rfl
        · rw [List.map_append, f1, List.take_add_one, hz]
          rfl
    · rintro σ H1 ⟨y6, y7, y8, y9, ca, ts, rfl, P1, K1, c1, all1, b1, f1⟩
      rw [List.length_map] at P1 f1
      rw [List.take_length] at f1
      refine ⟨_, rfl, C, _, rfl, .inl ⟨SqL.of c1, fun t ht => ?_⟩⟩
      have st := same_upd (o := .tup ca) ht
      have e1 := congrArg List.length f1
      rw [List.length_map] at e1
      exact q _ _ ts (P1.same st) (K1.trans (skp st)) (.tup (SqT.of upd_same) (by rw [all1.len]; omega) (all1.tk (tk_same st))) b1 f1
end

section
variable {P : Program} {w : World} {K : PySem.W.Frag} {mg : Str → Option Value} {base : Heap}
def spLProgram (K : PySem.W.Frag) : Sp := fun vs H Q _ => ∃ (A : PA) (c : Nat) (room : Int) (mc mm : Nat), vs = [.ref A.p, .int room, .int mc, .int mm] ∧ Pool H A c ∧ c < 400000 ∧ mc ≤ 8 ∧ mm ≤ 8 ∧ (mc : Int) + 1 ≤ room ∧ room ≤ 100000 ∧
  ∀ (H' : Hp) (p : Addr) (a b d : V) (t1 t2 t3 : Th) (k : Bool), Pool H' A (c + 3000) → Kp A H H' → SqT K H' p [a, b, d, .bl k] → TAt 10 K H' a t1 → TAt 10 K H' b t2 → TAt 10 K H' d t3 → progB (.tup [t1, t2, t3, .bl k]) = true → Q (.ref p) H'
theorem ok_lprogram {f : Addr} {fd : FuncData} (F : Fun K "_law_program" "_law_program" s_law_program f fd) (T : Bi mg) (c_law_draw : Cal P w K mg base 1 "_law_draw" ["_law_pool_here", "_law_many"] spDraw) (c_law_names : Cal P w K mg base 3 "_law_names" ["_law_pool_here", "_law_many"] spLNames)
    (c_law_cells : Cal P w K mg base 2 "_law_cells" ["_law_pool_here", "_law_names_here", "_law_room"] (spLCells K)) (c_law_command : Cal P w K mg base 4 "_law_command" ["_law_pool_here", "_law_name_here", "_law_names_here"] (spLCommand K)) (c_law_marks : Cal P w K mg base 5 "_law_marks" ["_law_pool_here", "_law_names_here", "_law_cells_here", "_law_commands", "_law_keeps"] (spLMarks K)) :
    FnOk P w K mg base CX0 6 f fd ["_law_pool_here", "_law_room", "_law_commands", "_law_marks_here"] (spLProgram K) := by
  refine F.ok sc_law_program (fun vs H Q E h => ?_) (fun cdv A outer s H vs Q E hr h => ?_)
  · obtain ⟨A, c, room, mc, mm, rfl, _⟩ := h
    rfl
  · obtain ⟨PL, c, room, mc, mm, rfl, P0, hc, lc, lm, r0, r1, q⟩ := h
    refine ⟨_, (pss_cons (ps_set (i := 4) sc_law_program.nd rfl (.inl rfl) (pe_cmpR op_eq (pe_call c_law_draw.G (hr.mono (by decide)) (by rfl) c_law_draw.g c_law_draw.kp c_law_draw.b .nil pass0 (pa_cons (pv 0) (pa_cons pe_int pa_nil))) pe_int (nomark _)))
      (pss_cons (ps_set (i := 5) sc_law_program.nd rfl (.inl rfl) (pe_cmpR op_eq (pe_call c_law_draw.G (hr.mono (by decide)) (by rfl) c_law_draw.g c_law_draw.kp c_law_draw.b .nil pass0 (pa_cons (pv 0) (pa_cons pe_int pa_nil))) pe_int (nomark _)))
      (pss_cons (ps_set (i := 6) sc_law_program.nd rfl (.inl rfl) (pe_op op_add pe_int (pe_call c_law_draw.G (hr.mono (by decide)) (by rfl) c_law_draw.g c_law_draw.kp c_law_draw.b .nil pass0 (pa_cons (pv 0) (pa_cons pe_int pa_nil)))))
      (pss_cons (ps_set (i := 2) sc_law_program.nd rfl (.inl rfl) (pe_call c_law_draw.G (hr.mono (by decide)) (by rfl) c_law_draw.g c_law_draw.kp c_law_draw.b .nil pass0 (pa_cons (pv 0) (pa_cons (pe_op op_add (pv 2) pe_int) pa_nil))))
      (pss_cons (ps_set (i := 3) sc_law_program.nd rfl (.inl rfl) (pe_call c_law_draw.G (hr.mono (by decide)) (by rfl) c_law_draw.g c_law_draw.kp c_law_draw.b .nil pass0 (pa_cons (pv 0) (pa_cons (pe_op op_add (pv 3) pe_int) pa_nil))))
      (pss_cons (ps_set (i := 7) sc_law_program.nd rfl (.inl rfl) (pe_call c_law_names.G (hr.mono (by decide)) (by rfl) c_law_names.g c_law_names.kp c_law_names.b .nil pass0 (pa_cons (pv 0) (pa_cons pe_int pa_nil))))
      (pss_cons (ps_set (i := 8) sc_law_program.nd rfl (.inr rfl) (pe_slice sl_list (pv 7) po_none (po_some (pv 6))))
      (pss_cons (ps_set (i := 9) sc_law_program.nd rfl (.inl rfl) (pe_slice sl_list (pe_revL (pv 7)) po_none (po_some (pv 3))))
      (Evl.pss_cut (ps_if (pt_not (pt_val (pv 5)))
        (pss_cons (ps_set (i := 8) sc_law_program.nd rfl (.inr rfl) (pe_call c_law_names.G (hr.mono (by decide)) (by rfl) c_law_names.g c_law_names.kp c_law_names.b .nil pass0 (pa_cons (pv 0) (pa_cons (pv 6) pa_nil))))
        (pss_one (ps_set (i := 9) sc_law_program.nd rfl (.inl rfl) (pe_call c_law_names.G (hr.mono (by decide)) (by rfl) c_law_names.g c_law_names.kp c_law_names.b .nil pass0 (pa_cons (pv 0) (pa_cons (pv 3) pa_nil))))))
        pss_nil)
      (pss_cons (ps_set (i := 7) sc_law_program.nd rfl (.inl rfl) (pe_slice sl_list (pv 7) po_none (po_some (pv 2))))
      (Evl.pss_cut (ps_if (pt_val (pv 4))
        (pss_one (ps_set (i := 1) sc_law_program.nd rfl (.inl rfl) (pe_op op_fdiv (pv 1) (pe_op op_add pe_int (pv 2)))))
        pss_nil)
      (pss_cons (ps_set (i := 10) sc_law_program.nd rfl (.inl rfl) (pe_call c_law_cells.G (hr.mono (by decide)) (by rfl) c_law_cells.g c_law_cells.kp c_law_cells.b .nil pass0 (pa_cons (pv 0) (pa_cons (pv 8) (pa_cons (pv 1) pa_nil)))))
      (pss_cons (ps_set (i := 11) sc_law_program.nd rfl (.inl rfl) (pe_callTy call_tuple_of (by rfl) T.tuple (by decide +kernel) (pa_cons (pe_lc (own := [("_law_name_here", 12)]) (g := gName 12) rfl sc_law_program.nd (pi_list (pv 7)) (blkOk_by (own := [("_law_name_here", 12)]) (N := ["_law_pool_here", "_law_room", "_law_commands", "_law_marks_here", "_law_keeps", "_law_shared", "_law_many", "_law_called", "_law_cells_here", "_law_worn", "_law_inner", "_law_rows", "_law_name_here"]) (sc := defScope s_law_program) (by decide +kernel)) (fun _ _ _ _ _ => (pg_name (i := 12) sc_law_program.nd rfl (.inl rfl))) (fun _ _ _ _ _ => pts_nil) (fun _ _ _ _ _ => (pe_call c_law_command.G (hr.mono (by decide)) (by rfl) c_law_command.g c_law_command.kp c_law_command.b .nil pass0 (pa_cons (pv 0) (pa_cons (pv 12) (pa_cons (pv 8) pa_nil)))))) pa_nil)))
      (pss_one (ps_ret (pe_tup (pa_cons (pv 10) (pa_cons (pv 11) (pa_cons (pe_call c_law_marks.G hr (by rfl) c_law_marks.g c_law_marks.kp c_law_marks.b .nil pass0 (pa_cons (pv 0) (pa_cons (pv 9) (pa_cons (pv 8) (pa_cons (pv 7) (pa_cons (pv 4) pa_nil)))))) (pa_cons (pv 4) pa_nil)))))))))))))))))))), ?_⟩
    refine ⟨_, rfl, PL, _, 2, rfl, P0, by omega, by decide, by decide, fun H1 x1 _ _ P1 K1 => ⟨rfl, ?_⟩⟩
    generalize decide (V.int x1 = V.int 1) = keeps
    refine ⟨_, rfl, PL, _, 3, rfl, P1, by omega, by decide, by decide, fun H2 x2 _ _ P2 K2 => ⟨rfl, ?_⟩⟩
    generalize decide (V.int x2 = V.int 0) = shared
    refine ⟨_, rfl, PL, _, 4, rfl, P2, by omega, by decide, by decide, fun H3 x3 x30 x31 P3 K3 => ⟨_, _, rfl, rfl, ?_⟩⟩
    obtain ⟨many, hmany, m1, m4⟩ : ∃ n : Nat, (1 : Int) + x3 = (n : Int) ∧ 1 ≤ n ∧ n ≤ 4 := ⟨(1 + x3).toNat, by omega, by omega, by omega⟩
    dsimp only
    rw [hmany]
    refine ⟨_, rfl, _, rfl, _, _, rfl, rfl, PL, _, (mc : Int) + 1, rfl, P3, by omega, by omega, by omega, fun H4 x4 x40 x41 P4 K4 => ?_⟩
    obtain ⟨nc, rfl⟩ : ∃ j : Nat, x4 = (j : Int) := ⟨x4.toNat, by omega⟩
    refine ⟨_, rfl, _, rfl, _, _, rfl, rfl, PL, _, (mm : Int) + 1, rfl, P4, by omega, by omega, by omega, fun H5 x5 x50 x51 P5 K5 => ?_⟩
    obtain ⟨nm, rfl⟩ : ∃ j : Nat, x5 = (j : Int) := ⟨x5.toNat, by omega⟩
    refine ⟨_, rfl, PL, _, 8, rfl, P5, by omega, by decide, fun H6 n8 z8 P6 K6 h8 o8 nd8 g8 l8 => ?_⟩
    have l8 : z8.length = 8 := l8
    have K06 := ((((K1.trans K2).trans K3).trans K4).trans K5).trans K6
    refine ⟨_, rfl, _, rfl, many, rfl, n8, _, rfl, SqL.of h8, fun C hC => ?_⟩
    have sC := same_upd (o := .lst (cutV (z8.map V.str) none (some (many : Int)))) hC
    have oC := P6.off hC
    have hC1 : (L2.upd H6 C (.lst (cutV (z8.map V.str) none (some (many : Int))))) C = some (.lst ((z8.take many).map V.str)) := by
      rw [upd_same, cut_to, List.map_take]
    refine ⟨_, rfl, n8, _, rfl, SqL.of (sC _ _ h8), fun B hB => ?_⟩
    have sB := same_upd (o := .lst (z8.map V.str).reverse) hB
    refine ⟨_, rfl, nm, rfl, B, _, rfl, SqL.of upd_same, fun W hW => ?_⟩
    have sW := same_upd (o := .lst (cutV (z8.map V.str).reverse none (some (nm : Int)))) hW
    have P7 := ((P6.same sC).same sB)
    have oW := P7.off hW
    have hW1 : (L2.upd (L2.upd (L2.upd H6 C (.lst (cutV (z8.map V.str) none (some (many : Int))))) B (.lst (z8.map V.str).reverse)) W (.lst (cutV (z8.map V.str).reverse none (some (nm : Int))))) W = some (.lst ((z8.reverse.take nm).map V.str)) := by
      rw [upd_same, cut_to, List.map_take, List.map_reverse]
    have s7 := (sC.trans sB).trans sW
    have P7 := P7.same sW
    have K07 := K06.trans (skp (a := PL) s7)
    have h87 := s7 _ _ h8
    have hC7 := sW _ _ (sB _ _ hC1)
    generalize L2.upd (L2.upd (L2.upd H6 C (.lst (cutV (z8.map V.str) none (some (many : Int))))) B (.lst (z8.map V.str).reverse)) W (.lst (cutV (z8.map V.str).reverse none (some (nm : Int)))) = H7 at hW1 P7 K07 h87 hC7
    refine ⟨fun σ H' => ∃ (cl wl : Addr) (zs ws : List Str), σ = [some (.ref PL.p), some (.int room), some (.int nc), some (.int nm), some (.bl keeps), some (.bl shared), some (.int many), some (.ref n8), some (.ref cl), some (.ref wl), none, none, none] ∧ Pool H' PL (c + 200) ∧ Kp PL H H' ∧ H' n8 = some (.lst (z8.map V.str)) ∧
      H' cl = some (.lst (zs.map V.str)) ∧ Off PL cl ∧ zs.Nodup ∧ (∀ z ∈ zs, GoodName z) ∧ zs.length = many ∧ H' wl = some (.lst (ws.map V.str)) ∧ Off PL wl ∧ ws.Nodup ∧ (∀ z ∈ ws, GoodName z) ∧ ws.length = nm, ?_, ?_⟩
    · refine ⟨_, rfl, _, rfl, ?_⟩
      cases shared with
      | true =>
        refine iteF ⟨C, W, z8.take many, z8.reverse.take nm, rfl, P7.mono (by omega), K07, h87, hC7, oC, nd8.sublist (List.take_sublist _ _), fun z hz => g8 z (List.mem_of_mem_take hz), by rw [List.length_take]; omega, hW1, oW, ((List.reverse_perm _).nodup_iff.mpr nd8).sublist (List.take_sublist _ _), fun z hz => g8 z (List.mem_reverse.mp (List.mem_of_mem_take hz)), by rw [List.length_take, List.length_reverse]; omega⟩
      | false =>
        refine iteT ⟨_, rfl, _, rfl, PL, _, many, rfl, P7, by omega, by omega, fun H8 cl zs P8 K8 hcl ocl ndc gc lc2 => ?_⟩
        refine ⟨_, rfl, _, rfl, PL, _, nm, rfl, P8, by omega, by omega, fun H9 wl ws P9 K9 hwl owl ndw gw lw2 => ?_⟩
        exact ⟨cl, wl, zs, ws, rfl, P9.mono (by omega), (K07.trans K8).trans K9, K9 _ _ (K8 _ _ h87 o8) o8, K9 _ _ hcl ocl, ocl, ndc, gc, lc2, hwl, owl, ndw, gw, lw2⟩
    rintro σ H8 ⟨cl, wl, zs, ws, rfl, P8, K8, h88, hcl, ocl, ndc, gc, lc2, hwl, owl, ndw, gw, lw2⟩
    refine ⟨_, rfl, _, rfl, nc, rfl, n8, _, rfl, SqL.of h88, fun M hM => ?_⟩
    have sM := same_upd (o := .lst (cutV (z8.map V.str) none (some (nc : Int)))) hM
    have oM := P8.off hM
    have hM1 : (L2.upd H8 M (.lst (cutV (z8.map V.str) none (some (nc : Int))))) M = some (.lst ((z8.take nc).map V.str)) := by
      rw [upd_same, cut_to, List.map_take]
    have P9 := P8.same sM
    have K9 := K8.trans (skp (a := PL) sM)
    have hcl9 := sM _ _ hcl
    have hwl9 := sM _ _ hwl
    have lys : (z8.take nc).length = nc := by
      rw [List.length_take]
      omega
    have gys : ∀ z ∈ z8.take nc, GoodName z := fun z hz => g8 z (List.mem_of_mem_take hz)
    have nys : (z8.take nc).Nodup := nd8.sublist (List.take_sublist _ _)
    generalize L2.upd H8 M (.lst (cutV (z8.map V.str) none (some (nc : Int)))) = H9 at hM1 P9 K9 hcl9 hwl9
    generalize z8.take nc = ys at hM1 lys gys nys
    refine ⟨fun σ H' => ∃ rm : Int, σ = [some (.ref PL.p), some (.int rm), some (.int nc), some (.int nm), some (.bl keeps), some (.bl shared), some (.int many), some (.ref M), some (.ref cl), some (.ref wl), none, none, none] ∧ 1 ≤ rm ∧ rm ≤ 100000 ∧ H' = H9, ?_, ?_⟩
    · refine ⟨_, rfl, _, rfl, ?_⟩
      cases keeps with
      | true => exact iteT ⟨_, rfl, _, rfl, _, _, rfl, rfl, _, _, rfl, rfl, ⟨by omega, by omega⟩, _, rfl, div_lo (by omega) (by omega), Int.le_trans (div_hi (by omega) (by omega)) r1, rfl⟩
      | false => exact iteF ⟨room, rfl, by omega, r1, rfl⟩
    rintro σ H9' ⟨rm, rfl, rm0, rm1, rfl⟩
    refine ⟨_, rfl, _, rfl, _, rfl, PL, _, cl, zs, rm, rfl, P9, by omega, hcl9, ocl, gc, by omega, rm0, rm1, fun H10 v1 cs P10 K10 x1 bc fc => ?_⟩
    have hM10 := K10 _ _ hM1 oM
    refine ⟨_, rfl, M, rfl, ⟨_, SqL.of hM10⟩, fun D hD => lc_listT (a := M) (A := PL) 38 (fun i H' acc => ∃ ms, TAll 10 K H' acc ms ∧ ms.all (commandB · zs) = true ∧ ms.map fstS = ys.take i) (fun i H H' acc k ⟨ts, x, y⟩ => ⟨ts, x.tk k, y⟩) P10 hM10 oM hD (by rw [List.length_map]; omega) (fun _ => ⟨[], .nil, rfl, rfl⟩) (fun _ => rfl) ?_ ?_⟩
    · rintro i v H11 acc hi P11 K11 ⟨ms, all, bm, fm⟩ _ N1 N2 k1 k2
      obtain ⟨z, hz, rfl⟩ := map_get hi
      have hir : i < ys.length := (List.getElem?_eq_some_iff.mp hz).1
      have K911 := K10.trans K11
      refine ⟨_, rfl, _, rfl, _, rfl, PL, _, z, cl, zs, rfl, P11, by omega, gys z (List.mem_of_getElem? hz), K911 _ _ hcl9 ocl, ocl, gc, ndc, by omega, by omega, fun H12 v t P12 K12 xt bt ft => k1 v H12 P12 K12 ⟨ms ++ [t], TAll.snoc xt (all.tk (tk_kp P11 P12 K12)), ?_, ?_⟩⟩
      · rw [List.all_append, bm]
        show (commandB t zs && true) = true
        rw [bt]
        rfl
      · rw [List.map_append, fm, List.take_add_one, hz, ← ft]
        rfl
    rintro H11 acc P11 K11 hD11 lacc ⟨ms, all, bm, fm⟩ oD
    rw [List.length_map] at P11 fm lacc
    rw [List.take_length] at fm
    have lms : ms.length = ys.length := by rw [← fm, List.length_map]
    refine ⟨D, _, rfl, .inl ⟨SqL.of hD11, fun t2 ht2 => ?_⟩⟩
    have st2 := same_upd (o := .tup acc) ht2
    have P12 := P11.same st2
    have K1012 := K11.trans (skp (a := PL) st2)
    have x1' := x1.tk (tk_kp P10 P12 K1012)
    have x2' : TAt 10 K (L2.upd H11 t2 (.tup acc)) (.ref t2) (.tup ms) := .tup (SqT.of upd_same) (by omega) (all.tk (tk_same st2))
    have K912 := K10.trans K1012
    refine ⟨_, rfl, _, rfl, _, rfl, _, rfl, _, rfl, _, rfl, _, rfl, PL, _, wl, cl, M, ws, zs, ys, keeps, rfl, P12, by omega, K912 _ _ hwl9 owl, owl, gw, by omega, K912 _ _ hcl9 ocl, ocl, gc, by omega, by omega, K912 _ _ hM1 oM, oM, gys, by omega, fun H13 v3 ks P13 K13 x3 bk fk => ⟨_, rfl, by show 4 ≤ sizeLine; decide, fun p hp => ?_⟩⟩
    have sp := same_upd (o := .tup [v1, .ref t2, v3, .bl keeps]) hp
    have tk13 := tk_kp (K := K) P12 P13 K13
    refine q _ p v1 (.ref t2) v3 (.tup cs) (.tup ms) (.tup ks) keeps ((P13.same sp).mono (by omega)) (((K9.trans K912).trans K13).trans (skp sp)) (SqT.of upd_same) ((x1'.tk tk13).same sp) ((x2'.tk tk13).same sp) (x3.same sp) ?_
    have lcs : cs.length = zs.length := by rw [← fc, List.length_map]
    have lks : ks.length = ws.length := by rw [← fk, List.length_map]
    rw [prog_eq, fc, fm, fk, bc, bm, bk, decide_eq_true (show 1 ≤ cs.length by omega), decide_eq_true (show cs.length ≤ 4 by omega), decide_eq_true (show ms.length ≤ 8 by omega), decide_eq_true (show ks.length ≤ 8 by omega), decide_eq_true ndc, decide_eq_true nys, decide_eq_true ndw]
    rfl
end

/-! ### the law's own walk of programs -/
abbrev s_law_unlike : Stmt := topS 58
theorem sc_law_unlike : FnScope ["_law_rows", "_law_firsts", "_law_k", "_law_row"] ["_law_rows"] (defScope s_law_unlike) := ⟨rfl, rfl, rfl, by decide +kernel, rfl, by decide +kernel, by decide +kernel⟩
abbrev s_law_is_of : Stmt := topS 59
theorem sc_law_is_of : FnScope ["_law_thing", "_law_names_here"] ["_law_thing", "_law_names_here"] (defScope s_law_is_of) := ⟨rfl, rfl, rfl, by decide +kernel, rfl, by decide +kernel, by decide +kernel⟩
abbrev s_law_is_worth : Stmt := topS 60
theorem sc_law_is_worth : FnScope ["_law_thing", "_law_names_here"] ["_law_thing", "_law_names_here"] (defScope s_law_is_worth) := ⟨rfl, rfl, rfl, by decide +kernel, rfl, by decide +kernel, by decide +kernel⟩
abbrev s_law_is_test : Stmt := topS 61
theorem sc_law_is_test : FnScope ["_law_thing", "_law_names_here"] ["_law_thing", "_law_names_here"] (defScope s_law_is_test) := ⟨rfl, rfl, rfl, by decide +kernel, rfl, by decide +kernel, by decide +kernel⟩
abbrev s_law_are_cells : Stmt := topS 62
theorem sc_law_are_cells : FnScope ["_law_thing", "_law_cell"] ["_law_thing"] (defScope s_law_are_cells) := ⟨rfl, rfl, rfl, by decide +kernel, rfl, by decide +kernel, by decide +kernel⟩
abbrev s_law_are_commands : Stmt := topS 63
theorem sc_law_are_commands : FnScope ["_law_thing", "_law_names_here", "_law_one", "_law_test_here", "_law_pair"] ["_law_thing", "_law_names_here"] (defScope s_law_are_commands) := ⟨rfl, rfl, rfl, by decide +kernel, rfl, by decide +kernel, by decide +kernel⟩
abbrev s_law_is_ask : Stmt := topS 64
theorem sc_law_is_ask : FnScope ["_law_thing", "_law_names_here", "_law_commands", "_law_keeps"] ["_law_thing", "_law_names_here", "_law_commands", "_law_keeps"] (defScope s_law_is_ask) := ⟨rfl, rfl, rfl, by decide +kernel, rfl, by decide +kernel, by decide +kernel⟩
abbrev s_law_are_marks : Stmt := topS 65
theorem sc_law_are_marks : FnScope ["_law_thing", "_law_names_here", "_law_commands", "_law_keeps", "_law_one", "_law_row", "_law_ask_here"] ["_law_thing", "_law_names_here", "_law_commands", "_law_keeps"] (defScope s_law_are_marks) := ⟨rfl, rfl, rfl, by decide +kernel, rfl, by decide +kernel, by decide +kernel⟩
abbrev s_law_is_program : Stmt := topS 66
theorem sc_law_is_program : FnScope ["_law_thing", "_law_names_here", "_law_cell", "_law_one"] ["_law_thing"] (defScope s_law_is_program) := ⟨rfl, rfl, rfl, by decide +kernel, rfl, by decide +kernel, by decide +kernel⟩
def items : Th → List Th
  | .tup ts => ts
  | _ => []
def cellsB (t : Th) : Bool := rowB t 1 4 && ((items t).all cellB && decide ((items t).map fstS).Nodup)
def commandsB (t : Th) (cs : List Str) : Bool := rowB t 0 8 && ((items t).all (commandB · cs) && decide ((items t).map fstS).Nodup)
def marksB (t : Th) (cs ms : List Str) (k : Bool) : Bool := rowB t 0 8 && ((items t).all (markB · cs ms k) && decide ((items t).map fstS).Nodup)
section
variable {P : Program} {w : World} {K : PySem.W.Frag} {mg : Str → Option Value} {base : Heap}
theorem tup_v {N : Nat} {H : Hp} {v : V} {ts : List Th} (x : TAt N K H v (.tup ts)) : ∃ a xs, v = .ref a ∧ SqT K H a xs ∧ TAll N K H xs ts := by
  cases x with
  | tup h l t => exact ⟨_, _, rfl, h, t⟩
def spLUnlike (K : PySem.W.Frag) : Sp := fun vs H Q _ => ∃ (v : V) (ts : List Th) (N : Nat), vs = [v] ∧ TAt N K H v (.tup ts) ∧ ts.length ≤ 1000 ∧ (∀ t ∈ ts, ∃ z r, t = .tup (.str z :: r)) ∧ ∀ H', Same H H' → Q (.bl (decide (ts.map fstS).Nodup)) H'
theorem ok_lunlike {f : Addr} {fd : FuncData} (F : Fun K "_law_unlike" "_law_unlike" s_law_unlike f fd) (T : Bi mg) : FnOk P w K mg base CX0 1 f fd ["_law_rows"] (spLUnlike K) := by
  refine F.ok sc_law_unlike (fun vs H Q E h => ?_) (fun cdv A outer s H vs Q E hr h => ?_)
  · obtain ⟨v, ts, N, rfl, _⟩ := h
    rfl
  · obtain ⟨v, ts, N, rfl, x, lt, hf, q⟩ := h
    obtain ⟨a, xs, rfl, hx, hall⟩ := tup_v x
    refine ⟨_, (pss_cons (ps_setLc (i := 1) (own := [("_law_row", 3)]) (g := gName 3) (by rfl) sc_law_unlike.nd rfl rfl (sw_true rfl rfl rfl (by decide +kernel)) (pi_tup (pv 0)) (blkOk_by (own := [("_law_row", 3)]) (N := ["_law_rows", "_law_firsts", "_law_k", "_law_row"]) (sc := defScope s_law_unlike) (by decide +kernel)) (fun _ _ _ _ _ => (pg_name (i := 3) sc_law_unlike.nd rfl (.inl rfl))) (fun _ _ _ _ _ => pts_nil) (fun _ _ _ _ _ => (pe_ix (ixT K) (pv 3) pe_int (fun _ _ => rfl))))
      (pss_cons (ps_for PassesOwn.never rfl (pi_range1 (by rfl) T.range (pa_cons (pe_callB call_len_seq (by rfl) T.len PySem.boot_len (pa_cons (pv 1) pa_nil)) pa_nil)) (pg_name (i := 2) sc_law_unlike.nd rfl (.inl rfl))
        (pss_one (ps_if (pt_cmpR op_in_seq (pe_ix ix_list (pv 1) (pv 2) (fun _ _ => rfl)) (pe_slice sl_list (pv 1) po_none (po_some (pv 2))) (by rfl))
          (pss_one (ps_ret pe_bl))
          pss_nil)))
      (pss_one (ps_ret pe_bl)))), ?_⟩
    refine ⟨_, rfl, a, rfl, ⟨_, hx⟩, fun D hD => lc_thT (fun t => .str (fstS t)) hx hall hD (by rw [hall.len]; omega) (fun _ => rfl) (fun y t H1 mt yt s1 N1 N2 k1 => ?_) (fun H1 s1 hD1 => ?_)⟩
    · obtain ⟨z, r, rfl⟩ := hf t mt
      obtain ⟨b, ys, rfl, hb⟩ := fst_at yt
      exact ⟨_, rfl, b, _, 0, .str z, rfl, rfl, hb, at_of (j := 0) rfl rfl, k1 H1 (Same.refl _)⟩
    rw [fsts_map] at hD1
    have lz : (ts.map fstS).length = ts.length := List.length_map _
    generalize ts.map fstS = zs at q hD1 lz
    refine ⟨_, rfl, D, _, rfl, .inl (SqL.of hD1), _, rfl, by rw [List.length_map]; omega, by rw [List.length_map]; omega, for_range (lo := 0) (n := (((zs.map V.str).length : Nat) : Int).toNat) (fun i σ H' => ∃ y : Option V, σ = [some (.ref a), some (.ref D), y, none] ∧ Same H1 H' ∧ (zs.take i).Nodup) ⟨none, rfl, Same.refl _, by simp⟩ ?_ ?_⟩
    · rintro i σ H2 hi ⟨y, rfl, s2, nd⟩
      rw [Int.toNat_natCast, List.length_map] at hi
      rw [Int.zero_add]
      have hz : zs[i]? = some zs[i] := List.getElem?_eq_getElem hi
      have et : zs.take (i + 1) = zs.take i ++ [zs[i]] := by
        rw [List.take_add_one, hz]
        rfl
      have hD2 := s2 _ _ hD1
      refine ⟨_, rfl, _, rfl, D, _, _, .str zs[i], rfl, rfl, SqL.of hD2, at_of rfl (get_map hz), _, rfl, _, rfl, i, rfl, D, _, rfl, SqL.of hD2, fun B hB => ?_⟩
      have eB : cutV (zs.map V.str) none (some (i : Int)) = (zs.take i).map V.str := by rw [cut_to, List.map_take]
      rw [eB]
      have sB := same_upd (o := .lst ((zs.take i).map V.str)) hB
      refine ⟨B, _, rfl, .inl (SqL.of upd_same), rfl, flat_str _, _, rfl, ?_⟩
      rw [inV_str]
      by_cases hm : zs[i] ∈ zs.take i
      · rw [decide_eq_true hm]
        have q := q _ ((s1.trans s2).trans sB)
        rw [decide_eq_false fun h => by
          have h1 : (zs.take (i + 1)).Nodup := h.sublist (List.take_sublist _ _)
          rw [et, List.nodup_append] at h1
          exact h1.2.2 _ hm _ (List.mem_singleton.mpr rfl) rfl] at q
        exact iteT q
      · rw [decide_eq_false hm]
        refine iteF ⟨_, rfl, s2.trans sB, ?_⟩
        rw [et, List.nodup_append]
        refine ⟨nd, by simp, fun a ha b hb => ?_⟩
        rw [List.mem_singleton.mp hb]
        rintro rfl
        exact hm ha
    · rintro σ H2 ⟨y, rfl, s2, nd⟩
      rw [Int.toNat_natCast, List.length_map, List.take_length] at nd
      have q := q H2 (s1.trans s2)
      rw [decide_eq_true nd] at q
      exact q
theorem ok_lof {f : Addr} {fd : FuncData} (F : Fun K "_law_is_of" "_law_is_of" s_law_is_of f fd) (c_law_good_name : Cal P w K mg base 1 "_law_good_name" ["_law_thing"] (spNameT K)) : FnOk P w K mg base CX0 2 f fd ["_law_thing", "_law_names_here"] (spOf K) := by
  refine F.ok sc_law_is_of (fun vs H Q E h => ?_) (fun cdv A outer s H vs Q E hr h => ?_)
  · obtain ⟨v, t, N, l, zs, rfl, _⟩ := h
    rfl
  · obtain ⟨v, t, N, l, zs, rfl, x, hl, q⟩ := h
    refine ⟨_, (pss_one (ps_ret (pe_and (pe_call c_law_good_name.G hr (by rfl) c_law_good_name.g c_law_good_name.kp c_law_good_name.b .nil pass0 (pa_cons (pv 0) pa_nil)) (pe_one (pe_cmpR op_in_seq (pv 0) (pv 1) (by rfl)))))), ?_⟩
    refine ⟨_, rfl, v, t, N, rfl, x, fun H2 s2 => ⟨_, rfl, ?_⟩⟩
    have q := q H2 s2
    cases hn : nameB t with
    | false =>
      have e : ofB t zs = false := by
        unfold ofB
        split
        · rw [hn]
          rfl
        · rfl
      rw [e] at q
      exact iteF q
    | true =>
      obtain ⟨z, rfl⟩ := nameB_str hn
      obtain rfl := str_v x
      have e : ofB (.str z) zs = decide (z ∈ zs) := by
        show (nameB (.str z) && decide (z ∈ zs)) = _
        rw [hn, Bool.true_and]
      rw [e] at q
      refine iteT ⟨_, rfl, _, rfl, l, _, rfl, .inl (s2.seq hl), rfl, flat_str _, ?_⟩
      rw [inV_str]
      exact q
theorem ok_lworthB {f : Addr} {fd : FuncData} (F : Fun K "_law_is_worth" "_law_is_worth" s_law_is_worth f fd) (c_law_tuple : Cal P w K mg base 1 "_law_tuple" ["_law_thing", "_law_least", "_law_most"] (spRowT K)) (c_law_number : Cal P w K mg base 1 "_law_number" ["_law_thing", "_law_low", "_law_high"] (spNumT K))
    (c_law_is_of : Cal P w K mg base 2 "_law_is_of" ["_law_thing", "_law_names_here"] (spOf K)) : FnOk P w K mg base CX0 3 f fd ["_law_thing", "_law_names_here"] (spWorth K) := by
  refine F.ok sc_law_is_worth (fun vs H Q E h => ?_) (fun cdv A outer s H vs Q E hr h => ?_)
  · obtain ⟨v, t, N, l, zs, rfl, _⟩ := h
    rfl
  · obtain ⟨v, t, N, l, zs, rfl, x, hl, q⟩ := h
    refine ⟨_, (pss_cons (ps_if (pt_val (pe_call c_law_tuple.G (hr.mono (by decide)) (by rfl) c_law_tuple.g c_law_tuple.kp c_law_tuple.b .nil pass0 (pa_cons (pv 0) (pa_cons pe_int (pa_cons pe_int pa_nil)))))
        (pss_one (ps_ret (pe_and (pe_call c_law_is_of.G hr (by rfl) c_law_is_of.g c_law_is_of.kp c_law_is_of.b .nil pass0 (pa_cons (pe_ix ix_tup (pv 0) pe_int (fun _ _ => rfl)) (pa_cons (pv 1) pa_nil))) (pe_one (pe_call c_law_number.G (hr.mono (by decide)) (by rfl) c_law_number.g c_law_number.kp c_law_number.b .nil pass0 (pa_cons (pe_ix ix_tup (pv 0) pe_int (fun _ _ => rfl)) (pa_cons (pe_un un_neg pe_int) (pa_cons pe_int pa_nil))))))))
        pss_nil)
      (pss_one (ps_ret (pe_call c_law_number.G (hr.mono (by decide)) (by rfl) c_law_number.g c_law_number.kp c_law_number.b .nil pass0 (pa_cons (pv 0) (pa_cons pe_int (pa_cons pe_int pa_nil))))))), ?_⟩
    refine ⟨_, rfl, v, t, N, 2, 2, rfl, x, _, rfl, ?_⟩
    cases hrow : rowB t 2 2 with
    | false =>
      have q := q H (Same.refl _)
      rw [worth_no hrow] at q
      exact iteF ⟨_, rfl, v, t, N, 0, 9, rfl, x, q⟩
    | true =>
      obtain ⟨a, x0, x1, t0, t1, rfl, rfl, hx, y0, y1⟩ := row2 x hrow
      refine iteT ⟨_, rfl, a, _, 0, x0, rfl, rfl, hx, at_of (j := 0) rfl rfl, _, rfl, x0, t0, N, l, zs, rfl, y0, hl, fun H2 s2 => ⟨_, rfl, ?_⟩⟩
      have q := q H2 s2
      have e : worthB (.tup [t0, t1]) zs = (ofB t0 zs && numB t1 (-8) 9) := rfl
      rw [e] at q
      cases ho : ofB t0 zs with
      | false =>
        rw [ho, Bool.false_and] at q
        exact iteF q
      | true =>
        rw [ho, Bool.true_and] at q
        exact iteT ⟨_, rfl, a, _, 1, x1, rfl, rfl, ssqt s2 hx, at_of (j := 1) rfl rfl, _, rfl, x1, t1, N, -8, 9, rfl, y1.same s2, q⟩
theorem ok_ltestB {f : Addr} {fd : FuncData} (F : Fun K "_law_is_test" "_law_is_test" s_law_is_test f fd) (T : Bi mg) (c_law_tuple : Cal P w K mg base 1 "_law_tuple" ["_law_thing", "_law_least", "_law_most"] (spRowT K)) (c_law_is_of : Cal P w K mg base 2 "_law_is_of" ["_law_thing", "_law_names_here"] (spOf K))
    (c_law_is_worth : Cal P w K mg base 3 "_law_is_worth" ["_law_thing", "_law_names_here"] (spWorth K)) : FnOk P w K mg base CX0 4 f fd ["_law_thing", "_law_names_here"] (spTest K) := by
  refine F.ok sc_law_is_test (fun vs H Q E h => ?_) (fun cdv A outer s H vs Q E hr h => ?_)
  · obtain ⟨v, t, N, l, zs, rfl, _⟩ := h
    rfl
  · obtain ⟨v, t, N, l, zs, rfl, x, hl, q⟩ := h
    refine ⟨_, (pss_cons (ps_if (PW.pt (pw_or (pt_not (pt_val (pe_call c_law_tuple.G (hr.mono (by decide)) (by rfl) c_law_tuple.g c_law_tuple.kp c_law_tuple.b .nil pass0 (pa_cons (pv 0) (pa_cons pe_int (pa_cons pe_int pa_nil)))))) (pw_or (pt_not (pt_val (pe_call c_law_is_of.G (hr.mono (by decide)) (by rfl) c_law_is_of.g c_law_is_of.kp c_law_is_of.b .nil pass0 (pa_cons (pe_ix ix_tup (pv 0) pe_int (fun _ _ => rfl)) (pa_cons (pv 1) pa_nil))))) (pw_or1 (pt_not (pt_val (pe_callB call_isT (by rfl) T.isinstance (by decide +kernel) (pa_cons (pe_ix ix_tup (pv 0) pe_int (fun _ _ => rfl)) (pa_cons (pe_bltn (v := .ty "str") (u := .type "str") (by rfl) T.str (by decide +kernel) rfl) pa_nil)))))))))
        (pss_one (ps_ret pe_bl))
        pss_nil)
      (pss_one (ps_ret (pe_and (pe_cmpR op_in_seq (pe_ix ix_tup (pv 0) pe_int (fun _ _ => rfl)) (pe_lst (pa_cons pe_str (pa_cons pe_str (pa_cons pe_str pa_nil)))) (by rfl)) (pe_one (pe_call c_law_is_worth.G hr (by rfl) c_law_is_worth.g c_law_is_worth.kp c_law_is_worth.b .nil pass0 (pa_cons (pe_ix ix_tup (pv 0) pe_int (fun _ _ => rfl)) (pa_cons (pv 1) pa_nil)))))))), ?_⟩
    refine ⟨_, rfl, v, t, N, 3, 3, rfl, x, _, rfl, ?_⟩
    cases hrow : rowB t 3 3 with
    | false =>
      have q := q H (Same.refl _)
      rw [test_no hrow] at q
      exact iteT q
    | true =>
      obtain ⟨a, x0, x1, x2, t0, t1, t2, rfl, rfl, hx, y0, y1, y2⟩ := row3 x hrow
      refine iteF ⟨_, rfl, a, _, 0, x0, rfl, rfl, hx, at_of (j := 0) rfl rfl, _, rfl, x0, t0, N, l, zs, rfl, y0, hl, fun H2 s2 => ⟨_, rfl, ?_⟩⟩
      cases ho : ofB t0 zs with
      | false =>
        have q := q H2 s2
        rw [test_of ho] at q
        exact iteT q
      | true =>
        refine iteF ⟨_, rfl, a, _, 1, x1, rfl, rfl, ssqt s2 hx, at_of (j := 1) rfl rfl, x1, t1, N, "str", rfl, y1.same s2, by simp [tyL], _, rfl, ?_⟩
        rcases str_or y1 with ⟨z, rfl, rfl, _, _⟩ | ⟨h1, h2⟩
        · rw [show isTh "str" (.str z) = true by simp [isTh, tyn]]
          have e : testB (.tup [t0, .str z, t2]) zs = (decide (z ∈ testsL) && worthB t2 zs) := by
            show (ofB t0 zs && (decide (z ∈ testsL) && worthB t2 zs)) = _
            rw [ho, Bool.true_and]
          rw [e] at q
          refine iteF ⟨_, rfl, a, _, 1, .str z, rfl, rfl, ssqt s2 hx, at_of (j := 1) rfl rfl, by show 3 ≤ sizeLine; decide, fun L hL => ?_⟩
          have sL := same_upd (o := .lst (testsL.map V.str)) hL
          have s3 := s2.trans sL
          have hL0 : (L2.upd H2 L (.lst (testsL.map V.str))) L = some (.lst (testsL.map V.str)) := upd_same
          refine ⟨L, _, rfl, .inl (SqL.of hL0), rfl, flat_str _, _, rfl, ?_⟩
          rw [inV_str]
          by_cases hz : z ∈ testsL
          · rw [decide_eq_true hz, Bool.true_and] at q
            rw [decide_eq_true hz]
            exact iteT ⟨_, rfl, a, _, 2, x2, rfl, rfl, ssqt s3 hx, at_of (j := 2) rfl rfl, _, rfl, x2, t2, N, l, zs, rfl, y2.same s3, s3.seq hl, fun H3 s4 => q H3 (s3.trans s4)⟩
          · have q := q _ s3
            rw [decide_eq_false hz, Bool.false_and] at q
            rw [decide_eq_false hz]
            exact iteF q
        · rw [h1]
          have e : testB (.tup [t0, t1, t2]) zs = false := by
            cases t1 with
            | str z => simp [isTh, tyn] at h1
            | _ => rfl
          have q := q H2 s2
          rw [e] at q
          exact iteT q
def spCells (K : PySem.W.Frag) : Sp := fun vs H Q _ => ∃ (v : V) (t : Th) (N : Nat), vs = [v] ∧ TAt N K H v t ∧ ∀ H', Same H H' → Q (.bl (cellsB t)) H'
theorem ok_arecells {f : Addr} {fd : FuncData} (F : Fun K "_law_are_cells" "_law_are_cells" s_law_are_cells f fd) (c_law_tuple : Cal P w K mg base 1 "_law_tuple" ["_law_thing", "_law_least", "_law_most"] (spRowT K)) (c_law_good_name : Cal P w K mg base 1 "_law_good_name" ["_law_thing"] (spNameT K))
    (c_law_number : Cal P w K mg base 1 "_law_number" ["_law_thing", "_law_low", "_law_high"] (spNumT K)) (c_law_unlike : Cal P w K mg base 1 "_law_unlike" ["_law_rows"] (spLUnlike K)) : FnOk P w K mg base CX0 2 f fd ["_law_thing"] (spCells K) := by
  refine F.ok sc_law_are_cells (fun vs H Q E h => ?_) (fun cdv A outer s H vs Q E hr h => ?_)
  · obtain ⟨v, t, N, rfl, _⟩ := h
    rfl
  · obtain ⟨v, t, N, rfl, x, q⟩ := h
    refine ⟨_, (pss_cons (ps_if (pt_not (pt_val (pe_call c_law_tuple.G hr (by rfl) c_law_tuple.g c_law_tuple.kp c_law_tuple.b .nil pass0 (pa_cons (pv 0) (pa_cons pe_int (pa_cons pe_int pa_nil))))))
        (pss_one (ps_ret pe_bl))
        pss_nil)
      (pss_cons (ps_for PassesOwn.never rfl (pi_tup (pv 0)) (pg_name (i := 1) sc_law_are_cells.nd rfl (.inl rfl))
        (pss_cons (ps_if (PW.pt (pw_or (pt_not (pt_val (pe_call c_law_tuple.G hr (by rfl) c_law_tuple.g c_law_tuple.kp c_law_tuple.b .nil pass0 (pa_cons (pv 1) (pa_cons pe_int (pa_cons pe_int pa_nil)))))) (pw_or (pt_not (pt_val (pe_call c_law_good_name.G hr (by rfl) c_law_good_name.g c_law_good_name.kp c_law_good_name.b .nil pass0 (pa_cons (pe_ix ix_tup (pv 1) pe_int (fun _ _ => rfl)) pa_nil)))) (pw_or1 (pt_not (pt_val (pe_call c_law_number.G hr (by rfl) c_law_number.g c_law_number.kp c_law_number.b .nil pass0 (pa_cons (pe_ix ix_tup (pv 1) pe_int (fun _ _ => rfl)) (pa_cons pe_int (pa_cons pe_int pa_nil))))))))))
          (pss_one (ps_ret pe_bl))
          pss_nil)
        (pss_one (ps_if (pt_not (pt_val (pe_call c_law_number.G hr (by rfl) c_law_number.g c_law_number.kp c_law_number.b .nil pass0 (pa_cons (pe_ix ix_tup (pv 1) pe_int (fun _ _ => rfl)) (pa_cons pe_int (pa_cons (pe_ix ix_tup (pv 1) pe_int (fun _ _ => rfl)) pa_nil))))))
          (pss_one (ps_ret pe_bl))
          pss_nil))))
      (pss_one (ps_ret (pe_call c_law_unlike.G hr (by rfl) c_law_unlike.g c_law_unlike.kp c_law_unlike.b .nil pass0 (pa_cons (pv 0) pa_nil)))))), ?_⟩
    refine ⟨_, rfl, v, t, N, 1, 4, rfl, x, _, rfl, ?_⟩
    unfold cellsB at q
    cases hrow : rowB t 1 4 with
    | false =>
      have q := q H (Same.refl _)
      rw [hrow, Bool.false_and] at q
      exact iteT q
    | true =>
      obtain ⟨a, xs, ts, rfl, rfl, hx, hall, l0, l1⟩ := row_tup x hrow
      rw [hrow, Bool.true_and] at q
      have q : ∀ H', Same H H' → Q (.bl (ts.all cellB && decide (ts.map fstS).Nodup)) H' := q
      have bad : ts.all cellB = false → ∀ H', Same H H' → Q (.bl false) H' := fun h H' s => by
        have q := q H' s
        rw [h, Bool.false_and] at q
        exact q
      refine iteF ⟨_, rfl, a, rfl, ⟨_, hx⟩, for_tup (K := K) (a := a) (xs := xs) (fun i σ H' => ∃ y : Option V, σ = [some (.ref a), y] ∧ Same H H' ∧ ts.all cellB = (ts.drop i).all cellB) ⟨none, rfl, Same.refl _, rfl⟩ (fun i σ H' _ ⟨_, _, s1, _⟩ => ssqt s1 hx) ?_ ?_⟩
      · rintro i y σ H1 hi ⟨z, rfl, s1, e⟩
        obtain ⟨t1, ht1, x1⟩ := hall.get hi
        rw [all_at ht1] at e
        have x1 := x1.same s1
        have bad1 : cellB t1 = false → ∀ H', Same H1 H' → Q (.bl false) H' := fun h H' s => bad (by rw [e, h, Bool.false_and]) H' (s1.trans s)
        refine ⟨_, rfl, y, t1, N, 3, 3, rfl, x1, _, rfl, ?_⟩
        cases hr3 : rowB t1 3 3 with
        | false => exact iteT (bad1 (cell_no hr3) H1 (Same.refl _))
        | true =>
          obtain ⟨b, z0, z1, z2, t0, u1, u2, rfl, rfl, hb, y0, y1, y2⟩ := row3 x1 hr3
          refine iteF ⟨_, rfl, b, _, 0, z0, rfl, rfl, hb, at_of (j := 0) rfl rfl, z0, t0, N, rfl, y0, fun H2 s2 => ⟨_, rfl, ?_⟩⟩
          cases hn : nameB t0 with
          | false => exact iteT (bad1 (cell_name hn) H2 s2)
          | true =>
            refine iteF ⟨_, rfl, b, _, 1, z1, rfl, rfl, ssqt s2 hb, at_of (j := 1) rfl rfl, z1, u1, N, 1, 10, rfl, y1.same s2, _, rfl, ?_⟩
            cases hm : numB u1 1 10 with
            | false => exact iteT (bad1 (cell_num hm) H2 s2)
            | true =>
              obtain ⟨n, rfl⟩ := numB_int hm
              obtain rfl := int_v y1
              have ec : cellB (.tup [t0, .int n, u2]) = numB u2 0 n := by
                show (nameB t0 && (numB (.int n) 1 10 && numB u2 0 n)) = _
                rw [hn, hm, Bool.true_and, Bool.true_and]
              refine iteF ⟨_, rfl, b, _, 2, z2, rfl, rfl, ssqt s2 hb, at_of (j := 2) rfl rfl, _, rfl, b, _, 1, .int n, rfl, rfl, ssqt s2 hb, at_of (j := 1) rfl rfl, z2, u2, N, 0, n, rfl, y2.same s2, _, rfl, ?_⟩
              cases hk : numB u2 0 n with
              | false => exact iteT (bad1 (by rw [ec, hk]) H2 s2)
              | true =>
                rw [ec, hk, Bool.true_and] at e
                exact iteF ⟨_, rfl, s1.trans s2, e⟩
      · rintro σ H1 ⟨z, rfl, s1, e⟩
        rw [hall.len, List.drop_of_length_le (Nat.le_refl _)] at e
        have e : ts.all cellB = true := e
        rw [e, Bool.true_and] at q
        exact ⟨_, rfl, _, ts, N, rfl, x.same s1, by rw [← hall.len]; omega, fun t mt => cell_fst (List.all_eq_true.mp e t mt), fun H2 s2 => q H2 (s1.trans s2)⟩
def spCommands (K : PySem.W.Frag) : Sp := fun vs H Q _ => ∃ (v : V) (t : Th) (N : Nat) (l : Addr) (zs : List Str), vs = [v, .ref l] ∧ TAt N K H v t ∧ SqL K H l (zs.map V.str) ∧ ∀ H', Same H H' → Q (.bl (commandsB t zs)) H'
theorem ok_arecommands {f : Addr} {fd : FuncData} (F : Fun K "_law_are_commands" "_law_are_commands" s_law_are_commands f fd) (c_law_tuple : Cal P w K mg base 1 "_law_tuple" ["_law_thing", "_law_least", "_law_most"] (spRowT K)) (c_law_good_name : Cal P w K mg base 1 "_law_good_name" ["_law_thing"] (spNameT K))
    (c_law_unlike : Cal P w K mg base 1 "_law_unlike" ["_law_rows"] (spLUnlike K)) (c_law_is_of : Cal P w K mg base 2 "_law_is_of" ["_law_thing", "_law_names_here"] (spOf K)) (c_law_is_worth : Cal P w K mg base 3 "_law_is_worth" ["_law_thing", "_law_names_here"] (spWorth K))
    (c_law_is_test : Cal P w K mg base 4 "_law_is_test" ["_law_thing", "_law_names_here"] (spTest K)) : FnOk P w K mg base CX0 5 f fd ["_law_thing", "_law_names_here"] (spCommands K) := by
  refine F.ok sc_law_are_commands (fun vs H Q E h => ?_) (fun cdv A outer s H vs Q E hr h => ?_)
  · obtain ⟨v, t, N, l, zs, rfl, _⟩ := h
    rfl
  · obtain ⟨v, t, N, l, zs, rfl, x, hl, q⟩ := h
    refine ⟨_, (pss_cons (ps_if (pt_not (pt_val (pe_call c_law_tuple.G (hr.mono (by decide)) (by rfl) c_law_tuple.g c_law_tuple.kp c_law_tuple.b .nil pass0 (pa_cons (pv 0) (pa_cons pe_int (pa_cons pe_int pa_nil))))))
        (pss_one (ps_ret pe_bl))
        pss_nil)
      (pss_cons (ps_for PassesOwn.never rfl (pi_tup (pv 0)) (pg_name (i := 2) sc_law_are_commands.nd rfl (.inl rfl))
        (pss_cons (ps_if (PW.pt (pw_or (pt_not (pt_val (pe_call c_law_tuple.G (hr.mono (by decide)) (by rfl) c_law_tuple.g c_law_tuple.kp c_law_tuple.b .nil pass0 (pa_cons (pv 2) (pa_cons pe_int (pa_cons pe_int pa_nil)))))) (pw_or1 (pt_not (pt_val (pe_call c_law_good_name.G (hr.mono (by decide)) (by rfl) c_law_good_name.g c_law_good_name.kp c_law_good_name.b .nil pass0 (pa_cons (pe_ix ix_tup (pv 2) pe_int (fun _ _ => rfl)) pa_nil)))))))
          (pss_one (ps_ret pe_bl))
          pss_nil)
        (pss_cons (ps_if (PW.pt (pw_or (pt_not (pt_val (pe_call c_law_tuple.G (hr.mono (by decide)) (by rfl) c_law_tuple.g c_law_tuple.kp c_law_tuple.b .nil pass0 (pa_cons (pe_ix ix_tup (pv 2) pe_int (fun _ _ => rfl)) (pa_cons pe_int (pa_cons pe_int pa_nil)))))) (pw_or1 (pt_not (pt_val (pe_call c_law_tuple.G (hr.mono (by decide)) (by rfl) c_law_tuple.g c_law_tuple.kp c_law_tuple.b .nil pass0 (pa_cons (pe_ix ix_tup (pv 2) pe_int (fun _ _ => rfl)) (pa_cons pe_int (pa_cons pe_int pa_nil)))))))))
          (pss_one (ps_ret pe_bl))
          pss_nil)
        (pss_cons (ps_for PassesOwn.never rfl (pi_tup (pe_ix ix_tup (pv 2) pe_int (fun _ _ => rfl))) (pg_name (i := 3) sc_law_are_commands.nd rfl (.inl rfl))
          (pss_one (ps_if (pt_not (pt_val (pe_call c_law_is_test.G hr (by rfl) c_law_is_test.g c_law_is_test.kp c_law_is_test.b .nil pass0 (pa_cons (pv 3) (pa_cons (pv 1) pa_nil)))))
            (pss_one (ps_ret pe_bl))
            pss_nil)))
        (pss_cons (ps_for PassesOwn.never rfl (pi_tup (pe_ix ix_tup (pv 2) pe_int (fun _ _ => rfl))) (pg_name (i := 4) sc_law_are_commands.nd rfl (.inl rfl))
          (pss_one (ps_if (PW.pt (pw_or (pt_not (pt_val (pe_call c_law_tuple.G (hr.mono (by decide)) (by rfl) c_law_tuple.g c_law_tuple.kp c_law_tuple.b .nil pass0 (pa_cons (pv 4) (pa_cons pe_int (pa_cons pe_int pa_nil)))))) (pw_or (pt_not (pt_val (pe_call c_law_is_of.G (hr.mono (by decide)) (by rfl) c_law_is_of.g c_law_is_of.kp c_law_is_of.b .nil pass0 (pa_cons (pe_ix ix_tup (pv 4) pe_int (fun _ _ => rfl)) (pa_cons (pv 1) pa_nil))))) (pw_or1 (pt_not (pt_val (pe_call c_law_is_worth.G (hr.mono (by decide)) (by rfl) c_law_is_worth.g c_law_is_worth.kp c_law_is_worth.b .nil pass0 (pa_cons (pe_ix ix_tup (pv 4) pe_int (fun _ _ => rfl)) (pa_cons (pv 1) pa_nil)))))))))
            (pss_one (ps_ret pe_bl))
            pss_nil)))
        (pss_one (ps_if (pt_not (pt_val (pe_call c_law_unlike.G (hr.mono (by decide)) (by rfl) c_law_unlike.g c_law_unlike.kp c_law_unlike.b .nil pass0 (pa_cons (pe_ix ix_tup (pv 2) pe_int (fun _ _ => rfl)) pa_nil))))
          (pss_one (ps_ret pe_bl))
          pss_nil)))))))
      (pss_one (ps_ret (pe_call c_law_unlike.G (hr.mono (by decide)) (by rfl) c_law_unlike.g c_law_unlike.kp c_law_unlike.b .nil pass0 (pa_cons (pv 0) pa_nil)))))), ?_⟩
    refine ⟨_, rfl, v, t, N, 0, 8, rfl, x, _, rfl, ?_⟩
    unfold commandsB at q
    cases hrow : rowB t 0 8 with
    | false =>
      have q := q H (Same.refl _)
      rw [hrow, Bool.false_and] at q
      exact iteT q
    | true =>
      obtain ⟨a, xs, ms, rfl, rfl, hx, hall, l0, l1⟩ := row_tup x hrow
      rw [hrow, Bool.true_and] at q
      have q : ∀ H', Same H H' → Q (.bl (ms.all (commandB · zs) && decide (ms.map fstS).Nodup)) H' := q
      have bad : ms.all (commandB · zs) = false → ∀ H', Same H H' → Q (.bl false) H' := fun h H' s => by
        have q := q H' s
        rw [h, Bool.false_and] at q
        exact q
      refine iteF ⟨_, rfl, a, rfl, ⟨_, hx⟩, for_tup (K := K) (a := a) (xs := xs) (fun i σ H' => ∃ y2 y3 y4 : Option V, σ = [some (.ref a), some (.ref l), y2, y3, y4] ∧ Same H H' ∧ ms.all (commandB · zs) = (ms.drop i).all (commandB · zs)) ⟨none, none, none, rfl, Same.refl _, rfl⟩ (fun i σ H' _ ⟨_, _, _, _, s1, _⟩ => ssqt s1 hx) ?_ ?_⟩
      · rintro i y σ H1 hi ⟨z2, z3, z4, rfl, s1, e⟩
        obtain ⟨t1, ht1, x1⟩ := hall.get hi
        rw [all_at ht1] at e
        have x1 := x1.same s1
        have bad1 : commandB t1 zs = false → ∀ H', Same H1 H' → Q (.bl false) H' := fun h H' s => bad (by rw [e, h, Bool.false_and]) H' (s1.trans s)
        refine ⟨_, rfl, y, t1, N, 3, 3, rfl, x1, _, rfl, ?_⟩
        cases hr3 : rowB t1 3 3 with
        | false => exact iteT (bad1 (command_no hr3) H1 (Same.refl _))
        | true =>
          obtain ⟨b, x0, x1', x2, t0, u1, u2, rfl, rfl, hb, y0, y1, y2⟩ := row3 x1 hr3
          refine iteF ⟨_, rfl, b, _, 0, x0, rfl, rfl, hb, at_of (j := 0) rfl rfl, x0, t0, N, rfl, y0, fun H2 s2 => ⟨_, rfl, ?_⟩⟩
          cases hn : nameB t0 with
          | false => exact iteT (bad1 (command_name hn) H2 s2)
          | true =>
            refine iteF ⟨_, rfl, b, _, 1, x1', rfl, rfl, ssqt s2 hb, at_of (j := 1) rfl rfl, x1', u1, N, 0, 4, rfl, y1.same s2, _, rfl, ?_⟩
            cases h1 : rowB u1 0 4 with
            | false => exact iteT (bad1 (command_r1 h1) H2 s2)
            | true =>
              refine iteF ⟨_, rfl, b, _, 2, x2, rfl, rfl, ssqt s2 hb, at_of (j := 2) rfl rfl, x2, u2, N, 0, 4, rfl, y2.same s2, _, rfl, ?_⟩
              cases h2 : rowB u2 0 4 with
              | false => exact iteT (bad1 (command_r2 h2) H2 s2)
              | true =>
                obtain ⟨a1, xs1, ts, rfl, rfl, hx1, hall1, l10, l11⟩ := row_tup (y1.same s2) h1
                obtain ⟨a2, xs2, ss, rfl, rfl, hx2, hall2, l20, l21⟩ := row_tup (y2.same s2) h2
                rw [row_le4] at h1 h2
                have ec := command_eq (t0 := t0) (ts := ts) (ss := ss) (cs := zs)
                rw [hn, h1, h2, Bool.true_and, Bool.true_and, Bool.true_and] at ec
                rw [ec] at e bad1
                refine iteF ⟨_, rfl, b, _, 1, .ref a1, rfl, rfl, ssqt s2 hb, at_of (j := 1) rfl rfl, a1, rfl, ⟨_, hx1⟩, for_tup (K := K) (a := a1) (xs := xs1) (fun i σ H' => ∃ y3 : Option V, σ = [some (.ref a), some (.ref l), some (.ref b), y3, z4] ∧ Same H2 H' ∧ ts.all (testB · zs) = (ts.drop i).all (testB · zs)) ⟨z3, rfl, Same.refl _, rfl⟩ (fun i σ H' _ ⟨_, _, s3, _⟩ => ssqt s3 hx1) ?_ ?_⟩
                · rintro j y5 σ H3 hj ⟨y3, rfl, s3, e3⟩
                  obtain ⟨t5, ht5, x5⟩ := hall1.get hj
                  rw [all_at ht5] at e3
                  refine ⟨_, rfl, _, rfl, y5, t5, N, l, zs, rfl, x5.same s3, s3.seq (s2.seq (s1.seq hl)), fun H4 s4 => ⟨_, rfl, ?_⟩⟩
                  cases ht : testB t5 zs with
                  | false => exact iteT (bad1 (by rw [e3, ht, Bool.false_and, Bool.false_and]) H4 ((s2.trans s3).trans s4))
                  | true =>
                    rw [ht, Bool.true_and] at e3
                    exact iteF ⟨_, rfl, s3.trans s4, e3⟩
                · rintro σ H3 ⟨y3, rfl, s3, e3⟩
                  rw [hall1.len, List.drop_of_length_le (Nat.le_refl _)] at e3
                  have e3 : ts.all (testB · zs) = true := e3
                  rw [e3, Bool.true_and] at e bad1
                  have s23 := s2.trans s3
                  refine ⟨_, rfl, b, _, 2, .ref a2, rfl, rfl, ssqt s23 hb, at_of (j := 2) rfl rfl, a2, rfl, ⟨_, ssqt s3 hx2⟩, for_tup (K := K) (a := a2) (xs := xs2) (fun i σ H' => ∃ y4 : Option V, σ = [some (.ref a), some (.ref l), some (.ref b), y3, y4] ∧ Same H3 H' ∧ ss.all (setRowB · zs) = (ss.drop i).all (setRowB · zs)) ⟨z4, rfl, Same.refl _, rfl⟩ (fun i σ H' _ ⟨_, _, s4, _⟩ => ssqt (s3.trans s4) hx2) ?_ ?_⟩
                  · rintro j y5 σ H4 hj ⟨y4, rfl, s4, e4⟩
                    obtain ⟨t5, ht5, x5⟩ := hall2.get hj
                    rw [all_at ht5] at e4
                    have s34 := s3.trans s4
                    have s24 := s2.trans s34
                    have hl4 := s24.seq (s1.seq hl)
                    have x5 := x5.same s34
                    have bad2 : setRowB t5 zs = false → ∀ H', Same H4 H' → Q (.bl false) H' := fun h H' s => bad1 (by rw [e4, h, Bool.false_and, Bool.false_and]) H' (s24.trans s)
                    refine ⟨_, rfl, y5, t5, N, 2, 2, rfl, x5, _, rfl, ?_⟩
                    cases hr2 : rowB t5 2 2 with
                    | false => exact iteT (bad2 (setRow_no hr2) H4 (Same.refl _))
                    | true =>
                      obtain ⟨d, w0, w1, p0, p1, rfl, rfl, hd, q0, q1⟩ := row2 x5 hr2
                      have es : setRowB (.tup [p0, p1]) zs = (ofB p0 zs && worthB p1 zs) := rfl
                      refine iteF ⟨_, rfl, d, _, 0, w0, rfl, rfl, hd, at_of (j := 0) rfl rfl, _, rfl, w0, p0, N, l, zs, rfl, q0, hl4, fun H5 s5 => ⟨_, rfl, ?_⟩⟩
                      cases ho : ofB p0 zs with
                      | false => exact iteT (bad2 (by rw [es, ho, Bool.false_and]) H5 s5)
                      | true =>
                        refine iteF ⟨_, rfl, d, _, 1, w1, rfl, rfl, ssqt s5 hd, at_of (j := 1) rfl rfl, _, rfl, w1, p1, N, l, zs, rfl, q1.same s5, s5.seq hl4, fun H6 s6 => ⟨_, rfl, ?_⟩⟩
                        cases hw : worthB p1 zs with
                        | false => exact iteT (bad2 (by rw [es, ho, hw, Bool.and_false]) H6 (s5.trans s6))
                        | true =>
                          rw [es, ho, hw, Bool.true_and, Bool.true_and] at e4
                          exact iteF ⟨_, rfl, (s4.trans s5).trans s6, e4⟩
                  · rintro σ H4 ⟨y4, rfl, s4, e4⟩
                    rw [hall2.len, List.drop_of_length_le (Nat.le_refl _)] at e4
                    have e4 : ss.all (setRowB · zs) = true := e4
                    rw [e4, Bool.true_and] at e bad1
                    have s24 := s23.trans s4
                    refine ⟨_, rfl, b, _, 2, .ref a2, rfl, rfl, ssqt s24 hb, at_of (j := 2) rfl rfl, .ref a2, ss, N, rfl, y2.same s24, by rw [← hall2.len]; omega, fun t mt => let ⟨z, r, h⟩ := setRow_fst (List.all_eq_true.mp e4 t mt); ⟨z, [r], h⟩, fun H5 s5 => ⟨_, rfl, ?_⟩⟩
                    by_cases hu : (ss.map fstS).Nodup
                    · rw [decide_eq_true hu]
                      rw [decide_eq_true hu, Bool.true_and] at e
                      exact iteF ⟨_, _, _, rfl, (s1.trans s24).trans s5, e⟩
                    · rw [decide_eq_false hu]
                      exact iteT (bad1 (decide_eq_false hu) H5 (s24.trans s5))
      · rintro σ H1 ⟨z2, z3, z4, rfl, s1, e⟩
        rw [hall.len, List.drop_of_length_le (Nat.le_refl _)] at e
        have e : ms.all (commandB · zs) = true := e
        rw [e, Bool.true_and] at q
        exact ⟨_, rfl, _, ms, N, rfl, x.same s1, by rw [← hall.len]; omega, fun t mt => command_fst (List.all_eq_true.mp e t mt), fun H2 s2 => q H2 (s1.trans s2)⟩
end

section
variable {P : Program} {w : World} {K : PySem.W.Frag} {mg : Str → Option Value} {base : Heap}
theorem ask_two {z : Str} {t1 : Th} {zs ys : List Str} {k : Bool} : askB (.tup [.str z, t1]) zs ys k = (ofB t1 ys && (decide (z = Str.ofString "can") || (decide (z = Str.ofString "last") && k))) := by
  rw [ask_eq]
  have e1 : decide (z ∈ asksL) = (decide (z = Str.ofString "can") || decide (z = Str.ofString "last")) := by
    by_cases h1 : z = Str.ofString "can"
    · rw [h1]
      decide +kernel
    · by_cases h2 : z = Str.ofString "last"
      · rw [h2]
        decide +kernel
      · rw [decide_eq_false h1, decide_eq_false h2]
        refine decide_eq_false fun h => ?_
        rcases List.mem_cons.mp h with h | h
        · exact h1 h
        · exact h2 (List.mem_singleton.mp h)
  rw [e1]
  have ne : (Str.ofString "last" = Str.ofString "can") = False := eq_false (by decide +kernel)
  by_cases h1 : z = Str.ofString "can"
  · rw [decide_eq_true h1]
    cases ofB t1 ys <;> cases k <;> rfl
  · rw [decide_eq_false h1]
    cases ofB t1 ys <;> cases k <;> cases decide (z = Str.ofString "last") <;> rfl
theorem ok_laskB {f : Addr} {fd : FuncData} (F : Fun K "_law_is_ask" "_law_is_ask" s_law_is_ask f fd) (T : Bi mg) (c_law_tuple : Cal P w K mg base 1 "_law_tuple" ["_law_thing", "_law_least", "_law_most"] (spRowT K)) (c_law_is_of : Cal P w K mg base 2 "_law_is_of" ["_law_thing", "_law_names_here"] (spOf K))
    (c_law_is_test : Cal P w K mg base 4 "_law_is_test" ["_law_thing", "_law_names_here"] (spTest K)) : FnOk P w K mg base CX0 5 f fd ["_law_thing", "_law_names_here", "_law_commands", "_law_keeps"] (spAsk K) := by
  refine F.ok sc_law_is_ask (fun vs H Q E h => ?_) (fun cdv A outer s H vs Q E hr h => ?_)
  · obtain ⟨v, t, N, l, m, zs, ys, k, rfl, _⟩ := h
    rfl
  · obtain ⟨v, t, N, l, m, zs, ys, k, rfl, x, hl, hm, q⟩ := h
    refine ⟨_, (pss_cons (ps_if (pt_not (pt_val (pe_call c_law_tuple.G (hr.mono (by decide)) (by rfl) c_law_tuple.g c_law_tuple.kp c_law_tuple.b .nil pass0 (pa_cons (pv 0) (pa_cons pe_int (pa_cons pe_int pa_nil))))))
        (pss_one (ps_ret (pe_call c_law_is_test.G hr (by rfl) c_law_is_test.g c_law_is_test.kp c_law_is_test.b .nil pass0 (pa_cons (pv 0) (pa_cons (pv 1) pa_nil)))))
        pss_nil)
      (pss_cons (ps_if (PW.pt (pw_or (pt_not (pt_val (pe_callB call_isT (by rfl) T.isinstance (by decide +kernel) (pa_cons (pe_ix ix_tup (pv 0) pe_int (fun _ _ => rfl)) (pa_cons (pe_bltn (v := .ty "str") (u := .type "str") (by rfl) T.str (by decide +kernel) rfl) pa_nil))))) (pw_or1 (pt_not (pt_val (pe_call c_law_is_of.G (hr.mono (by decide)) (by rfl) c_law_is_of.g c_law_is_of.kp c_law_is_of.b .nil pass0 (pa_cons (pe_ix ix_tup (pv 0) pe_int (fun _ _ => rfl)) (pa_cons (pv 2) pa_nil))))))))
        (pss_one (ps_ret pe_bl))
        pss_nil)
      (pss_one (ps_ret (pe_or (pe_cmpR op_eq (pe_ix ix_tup (pv 0) pe_int (fun _ _ => rfl)) pe_str (nomark _)) (pe_one (pe_and (pe_cmpR op_eq (pe_ix ix_tup (pv 0) pe_int (fun _ _ => rfl)) pe_str (nomark _)) (pe_one (pv 3))))))))), ?_⟩
    refine ⟨_, rfl, v, t, N, 2, 2, rfl, x, _, rfl, ?_⟩
    cases hrow : rowB t 2 2 with
    | false =>
      rw [ask_no hrow] at q
      exact iteT ⟨_, rfl, _, rfl, v, t, N, l, zs, rfl, x, hl, q⟩
    | true =>
      obtain ⟨a, x0, x1, t0, t1, rfl, rfl, hx, y0, y1⟩ := row2 x hrow
      refine iteF ⟨_, rfl, a, _, 0, x0, rfl, rfl, hx, at_of (j := 0) rfl rfl, x0, t0, N, "str", rfl, y0, by simp [tyL], _, rfl, ?_⟩
      rcases str_or y0 with ⟨z, rfl, rfl, _, _⟩ | ⟨h1, h2⟩
      · rw [show isTh "str" (.str z) = true by simp [isTh, tyn]]
        rw [ask_two] at q
        refine iteF ⟨_, rfl, a, _, 1, x1, rfl, rfl, hx, at_of (j := 1) rfl rfl, _, rfl, x1, t1, N, m, ys, rfl, y1, hm, fun H2 s2 => ⟨_, rfl, ?_⟩⟩
        have q := q H2 s2
        have hx2 := ssqt s2 hx
        cases ho : ofB t1 ys with
        | false =>
          rw [ho, Bool.false_and] at q
          exact iteT q
        | true =>
          rw [ho, Bool.true_and] at q
          refine iteF ⟨_, rfl, a, _, 0, .str z, rfl, rfl, hx2, at_of (j := 0) rfl rfl, rfl, _, rfl, ?_⟩
          rw [dec_str]
          by_cases h1 : z = Str.ofString "can"
          · rw [decide_eq_true h1, Bool.true_or] at q
            rw [decide_eq_true h1]
            exact iteT q
          · rw [decide_eq_false h1, Bool.false_or] at q
            rw [decide_eq_false h1]
            refine iteF ⟨_, rfl, a, _, 0, .str z, rfl, rfl, hx2, at_of (j := 0) rfl rfl, rfl, _, rfl, ?_⟩
            rw [dec_str]
            by_cases h2 : z = Str.ofString "last"
            · rw [decide_eq_true h2, Bool.true_and] at q
              rw [decide_eq_true h2]
              exact iteT ⟨_, rfl, q⟩
            · rw [decide_eq_false h2, Bool.false_and] at q
              rw [decide_eq_false h2]
              exact iteF q
      · have q := q H (Same.refl _)
        rw [ask_nostr h1] at q
        rw [h1]
        exact iteT q
def spMarks (K : PySem.W.Frag) : Sp := fun vs H Q _ => ∃ (v : V) (t : Th) (N : Nat) (l m : Addr) (zs ys : List Str) (k : Bool), vs = [v, .ref l, .ref m, .bl k] ∧ TAt N K H v t ∧ SqL K H l (zs.map V.str) ∧ SqL K H m (ys.map V.str) ∧ ∀ H', Same H H' → Q (.bl (marksB t zs ys k)) H'
theorem ok_aremarks {f : Addr} {fd : FuncData} (F : Fun K "_law_are_marks" "_law_are_marks" s_law_are_marks f fd) (c_law_tuple : Cal P w K mg base 1 "_law_tuple" ["_law_thing", "_law_least", "_law_most"] (spRowT K)) (c_law_good_name : Cal P w K mg base 1 "_law_good_name" ["_law_thing"] (spNameT K))
    (c_law_unlike : Cal P w K mg base 1 "_law_unlike" ["_law_rows"] (spLUnlike K)) (c_law_is_ask : Cal P w K mg base 5 "_law_is_ask" ["_law_thing", "_law_names_here", "_law_commands", "_law_keeps"] (spAsk K)) : FnOk P w K mg base CX0 6 f fd ["_law_thing", "_law_names_here", "_law_commands", "_law_keeps"] (spMarks K) := by
  refine F.ok sc_law_are_marks (fun vs H Q E h => ?_) (fun cdv A outer s H vs Q E hr h => ?_)
  · obtain ⟨v, t, N, l, m, zs, ys, k, rfl, _⟩ := h
    rfl
  · obtain ⟨v, t, N, l, m, zs, ys, k, rfl, x, hl, hm, q⟩ := h
    refine ⟨_, (pss_cons (ps_if (pt_not (pt_val (pe_call c_law_tuple.G (hr.mono (by decide)) (by rfl) c_law_tuple.g c_law_tuple.kp c_law_tuple.b .nil pass0 (pa_cons (pv 0) (pa_cons pe_int (pa_cons pe_int pa_nil))))))
        (pss_one (ps_ret pe_bl))
        pss_nil)
      (pss_cons (ps_for PassesOwn.never rfl (pi_tup (pv 0)) (pg_name (i := 4) sc_law_are_marks.nd rfl (.inl rfl))
        (pss_cons (ps_if (PW.pt (pw_or (pt_not (pt_val (pe_call c_law_tuple.G (hr.mono (by decide)) (by rfl) c_law_tuple.g c_law_tuple.kp c_law_tuple.b .nil pass0 (pa_cons (pv 4) (pa_cons pe_int (pa_cons pe_int pa_nil)))))) (pw_or (pt_not (pt_val (pe_call c_law_good_name.G (hr.mono (by decide)) (by rfl) c_law_good_name.g c_law_good_name.kp c_law_good_name.b .nil pass0 (pa_cons (pe_ix ix_tup (pv 4) pe_int (fun _ _ => rfl)) pa_nil)))) (pw_or1 (pt_not (pt_val (pe_call c_law_tuple.G (hr.mono (by decide)) (by rfl) c_law_tuple.g c_law_tuple.kp c_law_tuple.b .nil pass0 (pa_cons (pe_ix ix_tup (pv 4) pe_int (fun _ _ => rfl)) (pa_cons pe_int (pa_cons pe_int pa_nil))))))))))
          (pss_one (ps_ret pe_bl))
          pss_nil)
        (pss_one (ps_for PassesOwn.never rfl (pi_tup (pe_ix ix_tup (pv 4) pe_int (fun _ _ => rfl))) (pg_name (i := 5) sc_law_are_marks.nd rfl (.inl rfl))
          (pss_cons (ps_if (pt_not (pt_val (pe_call c_law_tuple.G (hr.mono (by decide)) (by rfl) c_law_tuple.g c_law_tuple.kp c_law_tuple.b .nil pass0 (pa_cons (pv 5) (pa_cons pe_int (pa_cons pe_int pa_nil))))))
            (pss_one (ps_ret pe_bl))
            pss_nil)
          (pss_one (ps_for PassesOwn.never rfl (pi_tup (pv 5)) (pg_name (i := 6) sc_law_are_marks.nd rfl (.inl rfl))
            (pss_one (ps_if (pt_not (pt_val (pe_call c_law_is_ask.G hr (by rfl) c_law_is_ask.g c_law_is_ask.kp c_law_is_ask.b .nil pass0 (pa_cons (pv 6) (pa_cons (pv 1) (pa_cons (pv 2) (pa_cons (pv 3) pa_nil)))))))
              (pss_one (ps_ret pe_bl))
              pss_nil)))))))))
      (pss_one (ps_ret (pe_call c_law_unlike.G (hr.mono (by decide)) (by rfl) c_law_unlike.g c_law_unlike.kp c_law_unlike.b .nil pass0 (pa_cons (pv 0) pa_nil)))))), ?_⟩
    refine ⟨_, rfl, v, t, N, 0, 8, rfl, x, _, rfl, ?_⟩
    unfold marksB at q
    cases hrow : rowB t 0 8 with
    | false =>
      have q := q H (Same.refl _)
      rw [hrow, Bool.false_and] at q
      exact iteT q
    | true =>
      obtain ⟨a, xs, ms, rfl, rfl, hx, hall, l0, l1⟩ := row_tup x hrow
      rw [hrow, Bool.true_and] at q
      have q : ∀ H', Same H H' → Q (.bl (ms.all (markB · zs ys k) && decide (ms.map fstS).Nodup)) H' := q
      have bad : ms.all (markB · zs ys k) = false → ∀ H', Same H H' → Q (.bl false) H' := fun h H' s => by
        have q := q H' s
        rw [h, Bool.false_and] at q
        exact q
      refine iteF ⟨_, rfl, a, rfl, ⟨_, hx⟩, for_tup (K := K) (a := a) (xs := xs) (fun i σ H' => ∃ y2 y3 y4 : Option V, σ = [some (.ref a), some (.ref l), some (.ref m), some (.bl k), y2, y3, y4] ∧ Same H H' ∧ ms.all (markB · zs ys k) = (ms.drop i).all (markB · zs ys k)) ⟨none, none, none, rfl, Same.refl _, rfl⟩ (fun i σ H' _ ⟨_, _, _, _, s1, _⟩ => ssqt s1 hx) ?_ ?_⟩
      · rintro i y σ H1 hi ⟨z2, z3, z4, rfl, s1, e⟩
        obtain ⟨t1, ht1, x1⟩ := hall.get hi
        rw [all_at ht1] at e
        have x1 := x1.same s1
        have bad1 : markB t1 zs ys k = false → ∀ H', Same H1 H' → Q (.bl false) H' := fun h H' s => bad (by rw [e, h, Bool.false_and]) H' (s1.trans s)
        refine ⟨_, rfl, y, t1, N, 2, 2, rfl, x1, _, rfl, ?_⟩
        cases hr2 : rowB t1 2 2 with
        | false => exact iteT (bad1 (mark_no hr2) H1 (Same.refl _))
        | true =>
          obtain ⟨b, x0, x1', t0, u1, rfl, rfl, hb, y0, y1⟩ := row2 x1 hr2
          refine iteF ⟨_, rfl, b, _, 0, x0, rfl, rfl, hb, at_of (j := 0) rfl rfl, x0, t0, N, rfl, y0, fun H2 s2 => ⟨_, rfl, ?_⟩⟩
          cases hn : nameB t0 with
          | false => exact iteT (bad1 (mark_name hn) H2 s2)
          | true =>
            refine iteF ⟨_, rfl, b, _, 1, x1', rfl, rfl, ssqt s2 hb, at_of (j := 1) rfl rfl, x1', u1, N, 0, 4, rfl, y1.same s2, _, rfl, ?_⟩
            cases h1 : rowB u1 0 4 with
            | false => exact iteT (bad1 (mark_row h1) H2 s2)
            | true =>
              obtain ⟨a1, xs1, rows, rfl, rfl, hx1, hall1, l10, l11⟩ := row_tup (y1.same s2) h1
              rw [row_le4] at h1
              have ec := mark_eq (t0 := t0) (rows := rows) (zs := zs) (ys := ys) (k := k)
              rw [hn, h1, Bool.true_and, Bool.true_and] at ec
              rw [ec] at e bad1
              refine iteF ⟨_, rfl, b, _, 1, .ref a1, rfl, rfl, ssqt s2 hb, at_of (j := 1) rfl rfl, a1, rfl, ⟨_, hx1⟩, for_tup (K := K) (a := a1) (xs := xs1) (fun i σ H' => ∃ y3 y4 : Option V, σ = [some (.ref a), some (.ref l), some (.ref m), some (.bl k), some (.ref b), y3, y4] ∧ Same H2 H' ∧ rows.all (askRowB · zs ys k) = (rows.drop i).all (askRowB · zs ys k)) ⟨z3, z4, rfl, Same.refl _, rfl⟩ (fun i σ H' _ ⟨_, _, _, s3, _⟩ => ssqt s3 hx1) ?_ ?_⟩
              · rintro j y5 σ H3 hj ⟨y3, y4, rfl, s3, e3⟩
                obtain ⟨t5, ht5, x5⟩ := hall1.get hj
                rw [all_at ht5] at e3
                have s23 := s2.trans s3
                have x5 := x5.same s3
                have bad2 : askRowB t5 zs ys k = false → ∀ H', Same H3 H' → Q (.bl false) H' := fun h H' s => bad1 (by rw [e3, h, Bool.false_and]) H' (s23.trans s)
                refine ⟨_, rfl, y5, t5, N, 0, 4, rfl, x5, _, rfl, ?_⟩
                cases h4 : rowB t5 0 4 with
                | false => exact iteT (bad2 (askRow_no h4) H3 (Same.refl _))
                | true =>
                  obtain ⟨c, xs2, as, rfl, rfl, hx2, hall2, l20, l21⟩ := row_tup x5 h4
                  rw [row_le4] at h4
                  have ea : askRowB (.tup as) zs ys k = as.all (askB · zs ys k) := by
                    show (decide (as.length ≤ 4) && as.all (askB · zs ys k)) = _
                    rw [h4, Bool.true_and]
                  rw [ea] at e3 bad2
                  refine iteF ⟨_, rfl, c, rfl, ⟨_, hx2⟩, for_tup (K := K) (a := c) (xs := xs2) (fun i σ H' => ∃ y4 : Option V, σ = [some (.ref a), some (.ref l), some (.ref m), some (.bl k), some (.ref b), some (.ref c), y4] ∧ Same H3 H' ∧ as.all (askB · zs ys k) = (as.drop i).all (askB · zs ys k)) ⟨y4, rfl, Same.refl _, rfl⟩ (fun i σ H' _ ⟨_, _, s4, _⟩ => ssqt s4 hx2) ?_ ?_⟩
                  · rintro j2 y6 σ H4 hj2 ⟨y4, rfl, s4, e4⟩
                    obtain ⟨t6, ht6, x6⟩ := hall2.get hj2
                    rw [all_at ht6] at e4
                    have s14 := (s1.trans s23).trans s4
                    refine ⟨_, rfl, _, rfl, _, rfl, _, rfl, y6, t6, N, l, m, zs, ys, k, rfl, x6.same s4, s14.seq hl, s14.seq hm, fun H5 s5 => ⟨_, rfl, ?_⟩⟩
                    cases hk : askB t6 zs ys k with
                    | false => exact iteT (bad2 (by rw [e4, hk, Bool.false_and]) H5 (s4.trans s5))
                    | true =>
                      rw [hk, Bool.true_and] at e4
                      exact iteF ⟨_, rfl, s4.trans s5, e4⟩
                  · rintro σ H4 ⟨y4, rfl, s4, e4⟩
                    rw [hall2.len, List.drop_of_length_le (Nat.le_refl _)] at e4
                    have e4 : as.all (askB · zs ys k) = true := e4
                    rw [e4, Bool.true_and] at e3
                    exact ⟨_, _, rfl, s3.trans s4, e3⟩
              · rintro σ H3 ⟨y3, y4, rfl, s3, e3⟩
                rw [hall1.len, List.drop_of_length_le (Nat.le_refl _)] at e3
                have e3 : rows.all (askRowB · zs ys k) = true := e3
                rw [e3, Bool.true_and] at e
                exact ⟨_, _, _, rfl, (s1.trans s2).trans s3, e⟩
      · rintro σ H1 ⟨z2, z3, z4, rfl, s1, e⟩
        rw [hall.len, List.drop_of_length_le (Nat.le_refl _)] at e
        have e : ms.all (markB · zs ys k) = true := e
        rw [e, Bool.true_and] at q
        exact ⟨_, rfl, _, ms, N, rfl, x.same s1, by rw [← hall.len]; omega, fun t mt => mark_fst (List.all_eq_true.mp e t mt), fun H2 s2 => q H2 (s1.trans s2)⟩
theorem cells_tup {t : Th} (h : cellsB t = true) : ∃ cs, t = .tup cs ∧ 1 ≤ cs.length ∧ cs.length ≤ 4 ∧ cs.all cellB = true ∧ (cs.map fstS).Nodup := by
  cases t with
  | tup cs =>
    have h : (rowB (.tup cs) 1 4 && (cs.all cellB && decide (cs.map fstS).Nodup)) = true := h
    rw [row_eq, Bool.and_eq_true, Bool.and_eq_true, Bool.and_eq_true] at h
    have h1 := of_decide_eq_true h.1.1
    have h2 := of_decide_eq_true h.1.2
    exact ⟨cs, rfl, by omega, by omega, h.2.1, of_decide_eq_true h.2.2⟩
  | _ => cases h
theorem cells_no {t0 t1 t2 t3 : Th} (h : cellsB t0 = false) : progB (.tup [t0, t1, t2, t3]) = false := by
  cases t0 with
  | tup cs => cases t1 with
    | tup ms => cases t2 with
      | tup ks => cases t3 with
        | bl k =>
          cases hp : progB (.tup [.tup cs, .tup ms, .tup ks, .bl k]) with
          | false => rfl
          | true =>
            rw [prog_eq] at hp
            simp only [Bool.and_eq_true, decide_eq_true_eq] at hp
            have : cellsB (.tup cs) = true := by
              show (rowB (.tup cs) 1 4 && (cs.all cellB && decide (cs.map fstS).Nodup)) = true
              rw [row_eq, decide_eq_true (by omega), decide_eq_true (by omega), hp.2.2.1, decide_eq_true hp.2.2.2.2.2.2.2.1]
              rfl
            rw [this] at h
            cases h
        | _ => rfl
      | _ => rfl
    | _ => rfl
  | _ => rfl
theorem prog_split {cs : List Th} {t1 t2 : Th} {k : Bool} (h : cellsB (.tup cs) = true) : progB (.tup [.tup cs, t1, t2, .bl k]) = (commandsB t1 (cs.map fstS) && marksB t2 (cs.map fstS) ((items t1).map fstS) k) := by
  obtain ⟨cs', e, c1, c2, c3, c4⟩ := cells_tup h
  cases e
  cases t1 with
  | tup ms => cases t2 with
    | tup ks =>
      rw [prog_eq]
      show _ = ((rowB (.tup ms) 0 8 && (ms.all (commandB · (cs.map fstS)) && decide (ms.map fstS).Nodup)) && (rowB (.tup ks) 0 8 && (ks.all (markB · (cs.map fstS) (ms.map fstS) k) && decide (ks.map fstS).Nodup)))
      rw [row_le8, row_le8, decide_eq_true c1, decide_eq_true c2, c3, decide_eq_true c4]
      generalize decide (ms.length ≤ 8) = b1
      generalize decide (ks.length ≤ 8) = b2
      generalize ms.all (commandB · (cs.map fstS)) = b3
      generalize ks.all (markB · (cs.map fstS) (ms.map fstS) k) = b4
      generalize decide (ms.map fstS).Nodup = b5
      generalize decide (ks.map fstS).Nodup = b6
      cases b1 <;> cases b2 <;> cases b3 <;> cases b4 <;> cases b5 <;> cases b6 <;> rfl
    | _ => rw [show marksB _ (cs.map fstS) ((items (.tup ms)).map fstS) k = false from rfl, Bool.and_false]; rfl
  | _ =>
    have : ∀ (x : Bool), (false && x) = false := fun x => rfl
    exact this _ |>.symm ▸ (by cases t2 <;> rfl)
theorem ok_lprog {f : Addr} {fd : FuncData} (F : Fun K "_law_is_program" "_law_is_program" s_law_is_program f fd) (T : Bi mg) (c_law_tuple : Cal P w K mg base 1 "_law_tuple" ["_law_thing", "_law_least", "_law_most"] (spRowT K)) (c_law_are_cells : Cal P w K mg base 2 "_law_are_cells" ["_law_thing"] (spCells K))
    (c_law_are_commands : Cal P w K mg base 5 "_law_are_commands" ["_law_thing", "_law_names_here"] (spCommands K)) (c_law_are_marks : Cal P w K mg base 6 "_law_are_marks" ["_law_thing", "_law_names_here", "_law_commands", "_law_keeps"] (spMarks K)) :
    FnOk P w K mg base CX0 7 f fd ["_law_thing"] (spProg K) := by
  refine F.ok sc_law_is_program (fun vs H Q E h => ?_) (fun cdv A outer s H vs Q E hr h => ?_)
  · obtain ⟨v, t, N, rfl, _⟩ := h
    rfl
  · obtain ⟨v, t, N, rfl, x, q⟩ := h
    refine ⟨_, (pss_cons (ps_if (PW.pt (pw_or (pt_not (pt_val (pe_call c_law_tuple.G (hr.mono (by decide)) (by rfl) c_law_tuple.g c_law_tuple.kp c_law_tuple.b .nil pass0 (pa_cons (pv 0) (pa_cons pe_int (pa_cons pe_int pa_nil)))))) (pw_or (pt_not (pt_val (pe_call c_law_are_cells.G (hr.mono (by decide)) (by rfl) c_law_are_cells.g c_law_are_cells.kp c_law_are_cells.b .nil pass0 (pa_cons (pe_ix ix_tup (pv 0) pe_int (fun _ _ => rfl)) pa_nil)))) (pw_or1 (pt_not (pt_val (pe_callB call_isT (by rfl) T.isinstance (by decide +kernel) (pa_cons (pe_ix ix_tup (pv 0) pe_int (fun _ _ => rfl)) (pa_cons (pe_bltn (v := .ty "bool") (u := .type "bool") (by rfl) T.bool (by decide +kernel) rfl) pa_nil)))))))))
        (pss_one (ps_ret pe_bl))
        pss_nil)
      (pss_cons (ps_setLc (i := 1) (own := [("_law_cell", 2)]) (g := gName 2) (by rfl) sc_law_is_program.nd rfl rfl (sw_true rfl rfl rfl (by decide +kernel)) (pi_tup (pe_ix ix_tup (pv 0) pe_int (fun _ _ => rfl))) (blkOk_by (own := [("_law_cell", 2)]) (N := ["_law_thing", "_law_names_here", "_law_cell", "_law_one"]) (sc := defScope s_law_is_program) (by decide +kernel)) (fun _ _ _ _ _ => (pg_name (i := 2) sc_law_is_program.nd rfl (.inl rfl))) (fun _ _ _ _ _ => pts_nil) (fun _ _ _ _ _ => (pe_ix (ixT K) (pv 2) pe_int (fun _ _ => rfl))))
      (pss_cons (ps_if (pt_not (pt_val (pe_call c_law_are_commands.G (hr.mono (by decide)) (by rfl) c_law_are_commands.g c_law_are_commands.kp c_law_are_commands.b .nil pass0 (pa_cons (pe_ix ix_tup (pv 0) pe_int (fun _ _ => rfl)) (pa_cons (pv 1) pa_nil)))))
        (pss_one (ps_ret pe_bl))
        pss_nil)
      (pss_one (ps_ret (pe_call c_law_are_marks.G hr (by rfl) c_law_are_marks.g c_law_are_marks.kp c_law_are_marks.b .nil pass0 (pa_cons (pe_ix ix_tup (pv 0) pe_int (fun _ _ => rfl)) (pa_cons (pv 1) (pa_cons (pe_lc (own := [("_law_one", 3)]) (g := gName 3) rfl sc_law_is_program.nd (pi_tup (pe_ix ix_tup (pv 0) pe_int (fun _ _ => rfl))) (blkOk_by (own := [("_law_one", 3)]) (N := ["_law_thing", "_law_names_here", "_law_cell", "_law_one"]) (sc := defScope s_law_is_program) (by decide +kernel)) (fun _ _ _ _ _ => (pg_name (i := 3) sc_law_is_program.nd rfl (.inl rfl))) (fun _ _ _ _ _ => pts_nil) (fun _ _ _ _ _ => (pe_ix (ixT K) (pv 3) pe_int (fun _ _ => rfl)))) (pa_cons (pe_ix ix_tup (pv 0) pe_int (fun _ _ => rfl)) pa_nil)))))))))), ?_⟩
    refine ⟨_, rfl, v, t, N, 4, 4, rfl, x, _, rfl, ?_⟩
    cases hrow : rowB t 4 4 with
    | false =>
      have q := q H (Same.refl _)
      rw [prog_no hrow] at q
      exact iteT q
    | true =>
      obtain ⟨a, x0, x1, x2, x3, t0, t1, t2, t3, rfl, rfl, hx, y0, y1, y2, y3⟩ := row4 x hrow
      refine iteF ⟨_, rfl, a, _, 0, x0, rfl, rfl, hx, at_of (j := 0) rfl rfl, x0, t0, N, rfl, y0, fun H1 s1 => ⟨_, rfl, ?_⟩⟩
      cases hc : cellsB t0 with
      | false =>
        have q := q H1 s1
        rw [cells_no hc] at q
        exact iteT q
      | true =>
        obtain ⟨cs, rfl, c1, c2, c3, c4⟩ := cells_tup hc
        refine iteF ⟨_, rfl, a, _, 3, x3, rfl, rfl, ssqt s1 hx, at_of (j := 3) rfl rfl, x3, t3, N, "bool", rfl, y3.same s1, by simp [tyL], _, rfl, ?_⟩
        rcases bool_or y3 with ⟨k, rfl, rfl⟩ | hb
        · rw [show isTh "bool" (.bl k) = true by simp [isTh, tyn]]
          rw [prog_split hc] at q
          obtain ⟨a0, xs0, rfl, hx0, hall0⟩ := tup_v (y0.same s1)
          refine iteF ⟨_, rfl, a, _, 0, .ref a0, rfl, rfl, ssqt s1 hx, at_of (j := 0) rfl rfl, a0, rfl, ⟨_, hx0⟩, fun D hD => lc_thT (fun t => .str (fstS t)) hx0 hall0 hD (by rw [hall0.len]; omega) (fun _ => rfl) (fun y t H2 mt yt s2 N1 N2 k1 => ?_) (fun H2 s2 hD2 => ?_)⟩
          · obtain ⟨z, r, rfl⟩ := cell_fst (List.all_eq_true.mp c3 t mt)
            obtain ⟨b, ys, rfl, hb⟩ := fst_at yt
            exact ⟨_, rfl, b, _, 0, .str z, rfl, rfl, hb, at_of (j := 0) rfl rfl, k1 H2 (Same.refl _)⟩
          rw [fsts_map] at hD2
          have s12 := s1.trans s2
          refine ⟨_, rfl, a, _, 1, x1, rfl, rfl, ssqt s12 hx, at_of (j := 1) rfl rfl, _, rfl, x1, t1, N, D, cs.map fstS, rfl, y1.same s12, SqL.of hD2, fun H3 s3 => ⟨_, rfl, ?_⟩⟩
          have s13 := s12.trans s3
          cases hm : commandsB t1 (cs.map fstS) with
          | false =>
            have q := q H3 s13
            rw [hm, Bool.false_and] at q
            exact iteT q
          | true =>
            rw [hm, Bool.true_and] at q
            obtain ⟨ms, rfl, m8, mc⟩ : ∃ ms, t1 = .tup ms ∧ ms.length ≤ 8 ∧ ms.all (commandB · (cs.map fstS)) = true := by
              cases t1 with
              | tup ms =>
                have hm : (rowB (.tup ms) 0 8 && (ms.all (commandB · (cs.map fstS)) && decide (ms.map fstS).Nodup)) = true := hm
                rw [row_le8, Bool.and_eq_true, Bool.and_eq_true] at hm
                exact ⟨ms, rfl, of_decide_eq_true hm.1, hm.2.1⟩
              | _ => cases hm
            have q : ∀ H', Same H H' → Q (.bl (marksB t2 (cs.map fstS) (ms.map fstS) k)) H' := q
            obtain ⟨a1, xs1, rfl, hx1, hall1⟩ := tup_v (y1.same s13)
            refine iteF ⟨_, rfl, a, _, 2, x2, rfl, rfl, ssqt s13 hx, at_of (j := 2) rfl rfl, _, rfl, _, rfl, a, _, 1, .ref a1, rfl, rfl, ssqt s13 hx, at_of (j := 1) rfl rfl, a1, rfl, ⟨_, hx1⟩, fun D2 hD2' => lc_thT (fun t => .str (fstS t)) hx1 hall1 hD2' (by rw [hall1.len]; omega) (fun _ => rfl) (fun y t H4 mt yt s4 N1 N2 k1 => ?_) (fun H4 s4 hD4 => ?_)⟩
            · obtain ⟨z, r, rfl⟩ := command_fst (List.all_eq_true.mp mc t mt)
              obtain ⟨b, ys, rfl, hb⟩ := fst_at yt
              exact ⟨_, rfl, b, _, 0, .str z, rfl, rfl, hb, at_of (j := 0) rfl rfl, k1 H4 (Same.refl _)⟩
            rw [fsts_map] at hD4
            have s14 := s13.trans s4
            exact ⟨_, rfl, a, _, 3, .bl k, rfl, rfl, ssqt s14 hx, at_of (j := 3) rfl rfl, x2, t2, N, D, D2, cs.map fstS, ms.map fstS, k, rfl, y2.same s14, SqL.of (s4 _ _ (s3 _ _ hD2)), SqL.of hD4, fun H5 s5 => q H5 (s14.trans s5)⟩
        · have q := q H1 s1
          rw [prog_r3 hb] at q
          rw [hb]
          exact iteT q
end

/-! ### a def that is handed the caught error -/
structure XSub (K : PySem.W.Frag) (mg : Str → Option Value) (R : Addr) (nm : Str) (b : Bool) where
  C : Addr
  x : XCls K mg nm C
  s : PySem.W.subIn K (.ref R) (.ref C) = some b
namespace KND
open PySem PySem.Spec PyProof.Rows L2
/-- its one argument is the error that is handled, of the class D -/
structure FnE (P : Program) (w : World) (K : PySem.W.Frag) (mg : Str → Option Value) (base : Heap) (k : Nat) (f : Addr) (fd : FuncData) (ps : List Str) (D : Addr) (sp : Hp → VK → Prop) : Prop where
  len : ps.length = 1
  run : ∀ (A : Around) (outer : List Env) (s : Shared) (H : Hp) (args : Args) (a : Addr) (oe : Obj) (Q : VK), L2H.RoomH k A → L2H.PinOk outer H s (a, oe) → Zc (.ref D) none oe → (∃ vs, oe.data = .fields vs) → Env0 P w K mg base A outer s H →
    BindsTo s fd args (ps.zip [.ref a]) → sp H Q → codeAny (model P w) A (.call (.ref f) args) (CR CX0 outer P w H s Q E0) s
structure CalE (P : Program) (w : World) (K : PySem.W.Frag) (mg : Str → Option Value) (base : Heap) (k : Nat) (x : Str) (ps : List Str) (D : Addr) (sp : Hp → VK → Prop) where
  f : Addr
  fd : FuncData
  G : FnE P w K mg base k f fd ps D sp
  g : mg x = some (.ref f)
  kp : PySem.W.keepIn K (.ref f) = true
  b : Binds K fd ps []
theorem room_mark {k : Nat} {A : Around} {x : Option Value} (r : Room k A) : L2H.RoomH k (A.mark x) := ⟨r.dp, r.un⟩
section
variable {P : Program} {w : World} {K : PySem.W.Frag} {mg : Str → Option Value} {base : Heap}
theorem okE {x qual : Str} {st : Stmt} {f : Addr} {fd : FuncData} {N ps : List Str} {k : Nat} {D : Addr} {sp : Hp → VK → Prop} (F : Fun K x qual st f fd) (S : FnScope N ps (defScope st)) (len : ps.length = 1)
    (hbody : ∀ (cdv : Value) (A : Around) (outer : List Env) (s : Shared) (H : Hp) (a : Addr) (oe : Obj) (Q : VK), Zc (.ref D) none oe → (∃ vs, oe.data = .fields vs) → sp H Q →
      ∃ t, PSs (L2H.cxH CX0 P w K mg base N qual (defScope st) f cdv A outer s H E0 (a, oe)) (defBody st) t ∧ t { nx := fun _ H' => Q .non H', rt := Q } (start N [.ref a]) H) : FnE P w K mg base (k + 1) f fd ps D sp := by
  obtain ⟨oc, od, kV, doc, pm, an, cdv, ct, osl, rfl, lk, hcd⟩ := F.ex
  refine ⟨len, fun A outer s H args a oe Q hr hpin hz hf e0 hb hsp => ?_⟩
  have KX : K.In s.heap := e0.mod.kin.keeps fun b o e => (e0.bs b o e).1
  have r1 : Vals [V.ref a] [Value.ref a] := .cons rfl .nil
  have hkind : ∀ y ∈ ps.zip [Value.ref a], (defScope st).names.lookup y.1 = some .local ∨ ((defScope st).names.lookup y.1 = some .cell ∧ ((cellsFrom (s.heap.objs.size + 1) (defScope st).names []).lookup y.1).isSome = true) := fun ⟨n, v⟩ hy =>
    (S.par n (List.of_mem_zip hy).1).elim .inl fun q => .inr ⟨q, PySem.W.cellsFrom_some _ _ _ (.inl q)⟩
  refine codeAny_call_function hr.depth (KX _ _ lk) rfl S.co S.gen rfl (PySem.W.codeRec_of KX hcd) (hb _ _ _ _ ?_)
  refine wpAny_newFunctionEnv_cells S.kind hkind fun env he s1 x => ?_
  subst he
  refine ⟨(e0.mod.nolimit.keeps fun b o e => (e0.bs b o e).1).keeps x.toInCall.keep, codeAny_func ?_⟩
  obtain ⟨t, ht, hq⟩ := hbody cdv A outer s H a oe Q hz hf hsp
  refine wpAny_mono (ht.run [] s1 (start N [V.ref a]) H _ (L2H.inv_startH S hpin e0 (by rw [len]; rfl) r1 x) hq) (fun fl s' hs => ?_) fun _ _ hs => hs
  cases fl with
  | ret u =>
    obtain ⟨v, σ', H', J, rv, q⟩ := hs
    exact ⟨v, H', J.os, J.bare, J.base, J.hok, rv, q⟩
  | next =>
    obtain ⟨σ', H', J, q⟩ := hs
    exact ⟨V.non, H', J.os, J.bare, J.base, J.hok, rfl, q⟩
  | brk => exact hs.elim fun _ h => h.elim fun _ h => False.elim h.2
  | cont => exact hs.elim fun _ h => h.elim fun _ h => False.elim h.2
end
section
variable {X : Cx} {a D : Addr} {oe : Obj}
/-- isinstance(e, c), e the error that the context bears -/
theorem call_isP (C : ExcC X.K D) (hm : (a, oe) ∈ X.pn) (hz : Zc (.ref D) none oe) (hf : ∃ vs, oe.data = .fields vs) : CallR X (.builtin "isinstance") (rIsE X.K D a) := by
  intro pins s σ H xs us Q I r h
  obtain ⟨c, cv, b, rfl, hcv, e, q⟩ := h
  cases r with
  | cons rx rr => cases rr with
    | cons rt rr =>
      cases rr
      cases rx
      obtain rfl := hcv _ rt
      obtain ⟨vs, hv⟩ := hf
      have J : PySem.W.InstAt s.heap a oe D none := by
        have hget := (I.pin (a, oe) (List.mem_append_left _ hm)).1
        obtain ⟨oc, od, oda, osl⟩ := oe
        obtain ⟨h1, h2⟩ := hz
        dsimp only at h1 h2 hv
        subst h1 h2 hv
        exact ⟨hget, rfl, rfl, trivial⟩
      exact PySem.W.kia_one (PySem.W.handS_kitx_exc C.hg C.hk C.hs C.hd C.ha C.hn C.ht C.hm) I.kIn J e (fun z => nomatch z) fun tk => ⟨.bl b, H, I.kept (t' := tk) fun _ _ z => z, rfl, q⟩
variable {k : Nat} {f : Addr} {fd : FuncData} {ps : List Str} {sp : Hp → VK → Prop} {x : Str} {p pos : Pos} {e : Expr} {t : TA}
/-- f(e), e the error that the context bears -/
theorem pe_callE (F : FnE X.prog X.w X.K X.mg X.base k f fd ps D sp) (hr : L2H.RoomH k X.A) (hg : Gl X x) (hm : X.mg x = some (.ref f)) (hk : PySem.W.keepIn X.K (.ref f) = true) (hb : Binds X.K fd ps []) (hp : (a, oe) ∈ X.pn) (hz : Zc (.ref D) none oe) (hf : ∃ vs, oe.data = .fields vs)
    (ha : L2.PA X [e] t) (hdb : (x == ("__debug__" : Str)) = false := by decide) (he : starEach [e] X.env = [(false, eval e X.env)] := by rfl) :
    PE X (.Call (.Name x p) [e] [] pos) (fun σ H Q => t σ H fun vs H1 => vs = [.ref a] ∧ sp H1 Q) := by
  refine ⟨fun pins s σ H Q I h => ?_⟩
  refine wpAny_Call_Name_kw (ld_glob I hg hm ?_ hdb)
  refine PySem.W.callWith_K (h₀ := X.base) I.ok.mod.kin hk (thn (ha.run pos pins s σ H _ I h) fun us s1 ⟨vs, H1, I1, r, ev, q⟩ => ⟨I1.kIn, ?_⟩) he rfl
  subst ev
  cases r with
  | cons rx rr =>
    cases rr
    cases rx
    have b := hb s1 [Value.ref a] I1.kIn (by rw [List.append_nil, F.len]; rfl)
    rw [List.append_nil] at b
    have P1 := I1.pin (a, oe) (List.mem_append_left _ hp)
    have hpin : L2H.PinOk X.stack H1 s1 (a, oe) := ⟨P1.1, P1.2.1, fun hm => (List.mem_cons.mp (I1.stkSub a hm)).elim P1.2.2.1 P1.2.2.2.1, P1.2.2.2.2⟩
    refine wpAny_call (codeAny_mono (F.run X.A X.stack s1 H1 ⟨[.ref a], []⟩ a oe Q hr hpin hz hf I1.env0 b q) fun r s' hq => ?_)
    cases r with
    | error e => exact False.elim hq
    | ok fl => cases fl with
      | ret u => exact I1.after hq
      | next => exact False.elim hq
      | brk => exact False.elim hq
      | cont => exact False.elim hq
/-- x is b, x perhaps None -/
theorem op_isV : OpR X (compareOp .Is) (fun x y H Q => ∃ b : Bool, y = .bl b ∧ ((x = .non ∧ Q (.bl false) H) ∨ ∃ a, x = .bl a ∧ Q (.bl (decide (a = b))) H)) := by
  intro pins s σ H x y v u Q I rx ry h
  obtain ⟨b, rfl, ⟨rfl, q⟩ | ⟨a, rfl, q⟩⟩ := h
  · cases (show v = Value.none from rx)
    cases (show u = Value.bool b from ry)
    exact wpAny_is_other rfl (fun z => by cases z) ⟨.bl false, H, I, rfl, q⟩
  · exact op_is_bl pins s σ H _ _ v u Q I rx ry ⟨a, b, rfl, rfl, q⟩
end
end KND

/-! ### the refusal's kinds -/
abbrev s_law_checked : Stmt := topS 68
theorem sc_law_checked : FnScope ["_law_thing", "_law_found", "_law_refused"] ["_law_thing"] (defScope s_law_checked) := ⟨rfl, rfl, rfl, by decide +kernel, rfl, by decide +kernel, by decide +kernel⟩
abbrev s_law_kinds : Stmt := topS 69
theorem sc_law_kinds : FnScope ["_law_e", "_law_found"] ["_law_e"] (defScope s_law_kinds) := ⟨rfl, rfl, rfl, by decide +kernel, rfl, by decide +kernel, by decide +kernel⟩
abbrev s_law_by_base : Stmt := topS 70
theorem sc_law_by_base : FnScope ["_law_thing", "_law_kinds_here", "_law_e", "_law_n"] ["_law_thing"] (defScope s_law_by_base) := ⟨rfl, rfl, rfl, by decide +kernel, rfl, by decide +kernel, by decide +kernel⟩
section
variable {P : Program} {w : World} {K : PySem.W.Frag} {mg : Str → Option Value} {base : Heap}
theorem dpa_bls {H : Hp} : ∀ l : List Bool, DpAll K H (l.map V.bl) (l.map PyData.bool)
  | [] => .nil
  | x :: r => .cons (.bl x) (dpa_bls r)
def kindsL (n : Nat) : List Bool := true :: (List.range 18).map fun j => decide (j = n)
def spKinds (n : Nat) : Hp → VK → Prop := fun H Q => ∀ H' l, Same H H' → H' l = some (.lst ((kindsL n).map V.bl)) → Q (.ref l) H'
theorem ok_kinds {f : Addr} {fd : FuncData} (F : Fun K "_law_kinds" "_law_kinds" s_law_kinds f fd) (T : Bi mg) (S : XOne K mg "NoProgram") (yTreeError : XSub K mg S.R "TreeError" true) (yNoMachine : XSub K mg S.R "NoMachine" false) (yNoWishes : XSub K mg S.R "NoWishes" false) (yNoProgram : XSub K mg S.R "NoProgram" true) (yNoSaying : XSub K mg S.R "NoSaying" false) (yNoText : XSub K mg S.R "NoText" false) (yNoRun : XSub K mg S.R "NoRun" false) (yNoWay : XSub K mg S.R "NoWay" false) (yNoSheet : XSub K mg S.R "NoSheet" false) (yNoPaper : XSub K mg S.R "NoPaper" false) (yNoDeed : XSub K mg S.R "NoDeed" false) (yTwice : XSub K mg S.R "Twice" false) (yMissing : XSub K mg S.R "Missing" false) (yNothing : XSub K mg S.R "Nothing" false) (yFull : XSub K mg S.R "Full" false) (yBroken : XSub K mg S.R "Broken" false) (yTooGreat : XSub K mg S.R "TooGreat" false) (yTooMany : XSub K mg S.R "TooMany" false) (yAreAlike : XSub K mg S.R "AreAlike" false) : KND.FnE P w K mg base 1 f fd ["_law_e"] S.R (spKinds 2) := by
  have rE := S.r
  refine KND.okE F sc_law_kinds rfl (fun cdv A outer s H a oe Q hz hf q => ?_)
  refine ⟨_, (pss_cons (ps_set (i := 1) sc_law_kinds.nd rfl (.inl rfl) (pe_lst (pa_cons (pe_callB (KND.call_isP rE.E List.mem_cons_self hz hf) (by rfl) T.isinstance (by decide +kernel) (pa_cons (pv 0) (pa_cons (pe_bltn (v := .ty "ValueError") (u := .type "ValueError") (by rfl) T.ValueError (by decide +kernel) rfl) pa_nil))) (pa_cons (pe_callB (KND.call_isP rE.E List.mem_cons_self hz hf) (by rfl) T.isinstance (by decide +kernel) (pa_cons (pv 0) (pa_cons (pe_glob rfl yNoMachine.x.g yNoMachine.x.r) pa_nil))) (pa_cons (pe_callB (KND.call_isP rE.E List.mem_cons_self hz hf) (by rfl) T.isinstance (by decide +kernel) (pa_cons (pv 0) (pa_cons (pe_glob rfl yNoWishes.x.g yNoWishes.x.r) pa_nil))) (pa_cons (pe_callB (KND.call_isP rE.E List.mem_cons_self hz hf) (by rfl) T.isinstance (by decide +kernel) (pa_cons (pv 0) (pa_cons (pe_glob rfl yNoProgram.x.g yNoProgram.x.r) pa_nil))) pa_nil))))))
      (pss_cons (ps_set (i := 1) sc_law_kinds.nd rfl (.inl rfl) (pe_op op_cat (pv 1) (pe_lst (pa_cons (pe_callB (KND.call_isP rE.E List.mem_cons_self hz hf) (by rfl) T.isinstance (by decide +kernel) (pa_cons (pv 0) (pa_cons (pe_glob rfl yNoSaying.x.g yNoSaying.x.r) pa_nil))) (pa_cons (pe_callB (KND.call_isP rE.E List.mem_cons_self hz hf) (by rfl) T.isinstance (by decide +kernel) (pa_cons (pv 0) (pa_cons (pe_glob rfl yNoText.x.g yNoText.x.r) pa_nil))) (pa_cons (pe_callB (KND.call_isP rE.E List.mem_cons_self hz hf) (by rfl) T.isinstance (by decide +kernel) (pa_cons (pv 0) (pa_cons (pe_glob rfl yNoRun.x.g yNoRun.x.r) pa_nil))) (pa_cons (pe_callB (KND.call_isP rE.E List.mem_cons_self hz hf) (by rfl) T.isinstance (by decide +kernel) (pa_cons (pv 0) (pa_cons (pe_glob rfl yNoWay.x.g yNoWay.x.r) pa_nil))) pa_nil)))))))
      (pss_cons (ps_set (i := 1) sc_law_kinds.nd rfl (.inl rfl) (pe_op op_cat (pv 1) (pe_lst (pa_cons (pe_callB (KND.call_isP rE.E List.mem_cons_self hz hf) (by rfl) T.isinstance (by decide +kernel) (pa_cons (pv 0) (pa_cons (pe_glob rfl yNoSheet.x.g yNoSheet.x.r) pa_nil))) (pa_cons (pe_callB (KND.call_isP rE.E List.mem_cons_self hz hf) (by rfl) T.isinstance (by decide +kernel) (pa_cons (pv 0) (pa_cons (pe_glob rfl yNoPaper.x.g yNoPaper.x.r) pa_nil))) (pa_cons (pe_callB (KND.call_isP rE.E List.mem_cons_self hz hf) (by rfl) T.isinstance (by decide +kernel) (pa_cons (pv 0) (pa_cons (pe_glob rfl yNoDeed.x.g yNoDeed.x.r) pa_nil))) (pa_cons (pe_callB (KND.call_isP rE.E List.mem_cons_self hz hf) (by rfl) T.isinstance (by decide +kernel) (pa_cons (pv 0) (pa_cons (pe_glob rfl yTwice.x.g yTwice.x.r) pa_nil))) pa_nil)))))))
      (pss_cons (ps_set (i := 1) sc_law_kinds.nd rfl (.inl rfl) (pe_op op_cat (pv 1) (pe_lst (pa_cons (pe_callB (KND.call_isP rE.E List.mem_cons_self hz hf) (by rfl) T.isinstance (by decide +kernel) (pa_cons (pv 0) (pa_cons (pe_glob rfl yMissing.x.g yMissing.x.r) pa_nil))) (pa_cons (pe_callB (KND.call_isP rE.E List.mem_cons_self hz hf) (by rfl) T.isinstance (by decide +kernel) (pa_cons (pv 0) (pa_cons (pe_glob rfl yNothing.x.g yNothing.x.r) pa_nil))) (pa_cons (pe_callB (KND.call_isP rE.E List.mem_cons_self hz hf) (by rfl) T.isinstance (by decide +kernel) (pa_cons (pv 0) (pa_cons (pe_glob rfl yFull.x.g yFull.x.r) pa_nil))) (pa_cons (pe_callB (KND.call_isP rE.E List.mem_cons_self hz hf) (by rfl) T.isinstance (by decide +kernel) (pa_cons (pv 0) (pa_cons (pe_glob rfl yBroken.x.g yBroken.x.r) pa_nil))) pa_nil)))))))
      (pss_one (ps_ret (pe_op op_cat (pv 1) (pe_lst (pa_cons (pe_callB (KND.call_isP rE.E List.mem_cons_self hz hf) (by rfl) T.isinstance (by decide +kernel) (pa_cons (pv 0) (pa_cons (pe_glob rfl yTooGreat.x.g yTooGreat.x.r) pa_nil))) (pa_cons (pe_callB (KND.call_isP rE.E List.mem_cons_self hz hf) (by rfl) T.isinstance (by decide +kernel) (pa_cons (pv 0) (pa_cons (pe_glob rfl yTooMany.x.g yTooMany.x.r) pa_nil))) (pa_cons (pe_callB (KND.call_isP rE.E List.mem_cons_self hz hf) (by rfl) T.isinstance (by decide +kernel) (pa_cons (pv 0) (pa_cons (pe_glob rfl yAreAlike.x.g yAreAlike.x.r) pa_nil))) pa_nil))))))))))), ?_⟩
  have i1 {nm : Str} {b : Bool} (y : XSub K mg S.R nm b) := y.x.kit rE y.s
  refine ⟨_, rfl, .ty "ValueError", .type "ValueError", true, rfl, fun u h => h, rE.kit, ?_⟩
  refine ⟨_, rfl, _, _, false, rfl, fun u h => h, i1 yNoMachine, ?_⟩
  refine ⟨_, rfl, _, _, false, rfl, fun u h => h, i1 yNoWishes, ?_⟩
  refine ⟨_, rfl, _, _, true, rfl, fun u h => h, i1 yNoProgram, by show 4 ≤ sizeLine; decide, fun l1 h1 => ?_⟩
  refine ⟨_, rfl, _, rfl, _, _, false, rfl, fun u h => h, i1 yNoSaying, ?_⟩
  refine ⟨_, rfl, _, _, false, rfl, fun u h => h, i1 yNoText, ?_⟩
  refine ⟨_, rfl, _, _, false, rfl, fun u h => h, i1 yNoRun, ?_⟩
  refine ⟨_, rfl, _, _, false, rfl, fun u h => h, i1 yNoWay, by show 4 ≤ sizeLine; decide, fun l2 h2 => ?_⟩
  refine ⟨l1, l2, _, _, rfl, rfl, (same_upd h2) _ _ upd_same, upd_same, by show 8 ≤ sizeLine; decide, fun l3 h3 => ?_⟩
  refine ⟨_, rfl, _, rfl, _, _, false, rfl, fun u h => h, i1 yNoSheet, ?_⟩
  refine ⟨_, rfl, _, _, false, rfl, fun u h => h, i1 yNoPaper, ?_⟩
  refine ⟨_, rfl, _, _, false, rfl, fun u h => h, i1 yNoDeed, ?_⟩
  refine ⟨_, rfl, _, _, false, rfl, fun u h => h, i1 yTwice, by show 4 ≤ sizeLine; decide, fun l4 h4 => ?_⟩
  refine ⟨l3, l4, _, _, rfl, rfl, (same_upd h4) _ _ upd_same, upd_same, by show 12 ≤ sizeLine; decide, fun l5 h5 => ?_⟩
  refine ⟨_, rfl, _, rfl, _, _, false, rfl, fun u h => h, i1 yMissing, ?_⟩
  refine ⟨_, rfl, _, _, false, rfl, fun u h => h, i1 yNothing, ?_⟩
  refine ⟨_, rfl, _, _, false, rfl, fun u h => h, i1 yFull, ?_⟩
  refine ⟨_, rfl, _, _, false, rfl, fun u h => h, i1 yBroken, by show 4 ≤ sizeLine; decide, fun l6 h6 => ?_⟩
  refine ⟨l5, l6, _, _, rfl, rfl, (same_upd h6) _ _ upd_same, upd_same, by show 16 ≤ sizeLine; decide, fun l7 h7 => ?_⟩
  refine ⟨_, rfl, _, rfl, _, _, false, rfl, fun u h => h, i1 yTooGreat, ?_⟩
  refine ⟨_, rfl, _, _, false, rfl, fun u h => h, i1 yTooMany, ?_⟩
  refine ⟨_, rfl, _, _, false, rfl, fun u h => h, i1 yAreAlike, by show 3 ≤ sizeLine; decide, fun l8 h8 => ?_⟩
  refine ⟨l7, l8, _, _, rfl, rfl, (same_upd h8) _ _ upd_same, upd_same, by show 19 ≤ sizeLine; decide, fun l9 h9 => ?_⟩
  refine q _ l9 ((((((((same_upd h1).trans (same_upd h2)).trans (same_upd h3)).trans (same_upd h4)).trans (same_upd h5)).trans (same_upd h6)).trans (same_upd h7)).trans (same_upd h8) |>.trans (same_upd h9)) ?_
  rw [upd_same]
  rfl
def spByBase (K : PySem.W.Frag) (good : Th → Bool) : Sp := fun vs H Q _ => ∃ (v : V) (t : Th) (N : Nat), vs = [v] ∧ TAt N K H v t ∧ good t = false ∧ ∀ H', Same H H' → Q (.bl true) H'
theorem kinds_shaped (n : Nat) (h : n < 18) : SeqAt.shaped (.list ((kindsL n).map PyData.bool)) = true := by
  have : ∀ n < 18, SeqAt.shaped (.list ((kindsL n).map PyData.bool)) = true := by decide +kernel
  exact this n h
theorem kinds_eqv (n : Nat) (h : n < 18) : PyData.eqv (.list ((kindsL n).map PyData.bool)) (.list ((kindsL n).map PyData.bool)) = true := by
  have : ∀ n < 18, PyData.eqv (.list ((kindsL n).map PyData.bool)) (.list ((kindsL n).map PyData.bool)) = true := by decide +kernel
  exact this n h
theorem ok_bybase {f : Addr} {fd : FuncData} (F : Fun K "_law_by_base" "_law_by_base" s_law_by_base f fd) (T : Bi mg) (S : XOne K mg "NoProgram") (yTreeError : XSub K mg S.R "TreeError" true) (ccheck : CalX P w K mg base 8 "check" ["thing"] (spCk K S.R))
    (c_law_kinds : KND.CalE P w K mg base 1 "_law_kinds" ["_law_e"] S.R (spKinds 2)) : FnOk P w K mg base CX0 9 f fd ["_law_thing"] (spByBase K progB) := by
  have xTreeError := yTreeError.x
  have rE := S.r
  refine F.ok sc_law_by_base (fun vs H Q E h => ?_) (fun cdv A outer s H vs Q E hr h => ?_)
  · obtain ⟨v, t, N, rfl, _⟩ := h
    rfl
  · obtain ⟨v, t, N, rfl, x, bad, q⟩ := h
    refine ⟨_, (pss_cons (ps_set (i := 1) sc_law_by_base.nd rfl (.inl rfl) (pe_lst pa_nil))
      (pss_cons (ps_try_as (i := 2) rfl rfl sc_law_by_base.nd rfl rfl ⟨rfl, by decide, .inl xTreeError.g⟩ takes0 (fun W pn xe tk _ => (pss_one (ps_expr (pe_callS ccheck.G hr (by rfl) ccheck.g ccheck.kp ccheck.b (fun σ => passAt tk σ) (pa_cons (pv 0) pa_nil))))) (fun a oe cls d pn hz hf => pss_when (p := cls = .ref S.R ∧ d = none) (fun hp => (pss_one (ps_set (i := 1) sc_law_by_base.nd rfl (.inl rfl) (KND.pe_callE c_law_kinds.G (KND.room_mark (hr.mono (by decide))) (by rfl) c_law_kinds.g c_law_kinds.kp c_law_kinds.b List.mem_cons_self (zc_of hz hp) hf (pa_cons (pv 2) pa_nil)))))))
      (pss_one (ps_ret (pe_cmpR (op_eqD hr.units) (pv 1) (pe_op op_cat (pe_lst (pa_cons pe_bl pa_nil)) (pe_lc (own := [("_law_n", 3)]) (g := gName 3) rfl sc_law_by_base.nd (pi_range1 (by rfl) T.range (pa_cons pe_int pa_nil)) (blkOk_by (own := [("_law_n", 3)]) (N := ["_law_thing", "_law_kinds_here", "_law_e", "_law_n"]) (sc := defScope s_law_by_base) (by decide +kernel)) (fun _ _ _ _ _ => (pg_name (i := 3) sc_law_by_base.nd rfl (.inl rfl))) (fun _ _ _ _ _ => pts_nil) (fun _ _ _ _ _ => (pe_cmpR op_eq (pv 3) pe_int (nomark _))))) (nomark _)))))), ?_⟩
    refine ⟨by show 0 ≤ sizeLine; decide, fun L0 hL0 => ?_⟩
    have s0 := same_upd (o := .lst []) hL0
    refine ⟨_, rfl, v, t, N, rfl, x.same s0, fun h => absurd h (by rw [bad]; decide), fun _ H1 s1 => ⟨true, xTreeError.exm yTreeError.s, fun _ a ha => ⟨⟨rfl, rfl⟩, ?_⟩, fun q => Bool.noConfusion q⟩⟩
    refine ⟨_, rfl, rfl, fun H2 l s2 hl => ?_⟩
    refine ⟨_, rfl, by show 1 ≤ sizeLine; decide, fun T1 hT1 => ?_⟩
    have s3 := same_upd (o := .lst [.bl true]) hT1
    refine ⟨18, rfl, by decide, by decide, fun D hD => lc_rangeS (fun i acc => acc = ((List.range i).map fun j => decide (j = 2)).map V.bl) hD (by decide) rfl (fun _ => rfl) (fun i H4 acc hi s4 e _ N1 N2 k1 _ => ?_) (fun H4 acc s4 hD4 _ e => ?_)⟩
    · refine ⟨_, rfl, rfl, k1 _ H4 (Same.refl _) ?_⟩
      rw [e, List.range_succ, List.map_append, List.map_append]
      refine congrArg (fun b => _ ++ [V.bl b]) ?_
      rw [dec_int]
      refine decide_eq_decide.mpr ?_
      omega
    · subst e
      refine ⟨T1, D, _, _, rfl, rfl, s4 _ _ upd_same, hD4, by show 19 ≤ sizeLine; decide, fun C hC => ?_⟩
      have s5 := same_upd (o := .lst ((kindsL 2).map V.bl)) hC
      have hl5 := s5 _ _ (s4 _ _ (s3 _ _ hl))
      refine ⟨_, _, .lst (SqL.of hl5) (dpa_bls (kindsL 2)), .lst (SqL.of upd_same) (dpa_bls (kindsL 2)), kinds_shaped 2 (by decide), kinds_shaped 2 (by decide), ?_⟩
      rw [kinds_eqv 2 (by decide)]
      exact q _ ((((s0.trans s1).trans s2).trans s3).trans (s4.trans s5))
def spChecked (K : PySem.W.Frag) (good : Th → Bool) : Sp := fun vs H Q _ => ∃ (v : V) (t : Th) (N : Nat), vs = [v] ∧ TAt N K H v t ∧ ∀ H' l, Same H H' → H' l = some (.lst [.bl (good t), .bl (!good t)]) → Q (.ref l) H'
theorem ok_checked {f : Addr} {fd : FuncData} (F : Fun K "_law_checked" "_law_checked" s_law_checked f fd) (S : XOne K mg "NoProgram") (ccheck : CalX P w K mg base 8 "check" ["thing"] (spCk K S.R)) : FnOk P w K mg base CX0 9 f fd ["_law_thing"] (spChecked K progB) := by
  have xNoProgram := S.xR
  refine F.ok sc_law_checked (fun vs H Q E h => ?_) (fun cdv A outer s H vs Q E hr h => ?_)
  · obtain ⟨v, t, N, rfl, _⟩ := h
    rfl
  · obtain ⟨v, t, N, rfl, x, q⟩ := h
    refine ⟨_, (pss_cons (ps_set (i := 1) sc_law_checked.nd rfl (.inl rfl) pe_non)
      (pss_cons (ps_set (i := 2) sc_law_checked.nd rfl (.inl rfl) pe_bl)
      (pss_cons (ps_try_only rfl rfl ⟨rfl, by decide, .inl xNoProgram.g⟩ takes0 (fun W pn xe tk _ => (pss_one (ps_set (i := 1) sc_law_checked.nd rfl (.inl rfl) (pe_callS ccheck.G hr (by rfl) ccheck.g ccheck.kp ccheck.b (fun σ => passAt tk σ) (pa_cons (pv 0) pa_nil))))) (fun a oe cls d pn hz hf => (pss_one (ps_set (i := 2) sc_law_checked.nd rfl (.inl rfl) pe_bl))))
      (pss_one (ps_ret (pe_lst (pa_cons (pe_cmpR KND.op_isV (pv 1) pe_bl (nomark _)) (pa_cons (pv 2) pa_nil)))))))), ?_⟩
    refine ⟨_, rfl, v, t, N, rfl, x, fun hg H1 s1 => ?_, fun hb H1 s1 => ⟨true, xNoProgram.exm S.r.s, fun _ a ha => ?_, fun q => Bool.noConfusion q⟩⟩
    · refine ⟨_, rfl, true, rfl, .inr ⟨true, rfl, _, rfl, by show 2 ≤ sizeLine; decide, fun l hl => ?_⟩⟩
      refine q _ l (s1.trans (same_upd hl)) ?_
      rw [upd_same, hg]
      rfl
    · refine ⟨_, rfl, true, rfl, .inl ⟨rfl, _, rfl, by show 2 ≤ sizeLine; decide, fun l hl => ?_⟩⟩
      refine q _ l (s1.trans (same_upd hl)) ?_
      rw [upd_same, hb]
      rfl
end

/-! ### overfull programs; the law -/
abbrev s_law_overfull : Stmt := topS 67
theorem sc_law_overfull : FnScope ["_law_pool_here", "_law_thing", "_law_over", "_law_cells_here", "_law_commands", "_law_marks_here", "_law_keeps", "_law_more", "_law_test_here", "_law_many", "_law_name_here"] ["_law_pool_here", "_law_thing", "_law_over"] (defScope s_law_overfull) := ⟨rfl, rfl, rfl, by decide +kernel, rfl, by decide +kernel, by decide +kernel⟩
abbrev slaw : Stmt := topS 71
theorem sclaw : FnScope ["_law_script", "_law_pool_here", "_law_whole", "_law_over", "_law_thing", "_law_good", "_law_k", "_law_told"] ["_law_script"] (defScope slaw) := ⟨rfl, rfl, rfl, by decide +kernel, rfl, by decide +kernel, by decide +kernel⟩
section
variable {P : Program} {w : World} {K : PySem.W.Frag} {mg : Str → Option Value} {base : Heap}
theorem cut_map (zs : List Str) (lo hi : Option Int) : ∃ ws : List Str, cutV (zs.map V.str) lo hi = ws.map V.str ∧ ws.length ≤ zs.length ∧ ∀ z ∈ ws, z ∈ zs := by
  unfold cutV
  refine ⟨(zs.drop _).take _, by rw [List.map_take, List.map_drop], ?_, fun z hz => List.mem_of_mem_drop (List.mem_of_mem_take hz)⟩
  rw [List.length_take, List.length_drop]
  omega
theorem cs_first {N : Nat} {H : Hp} {v : V} {t : Th} (x : TAt N K H v t) (h : ∃ cs, t = .tup cs ∧ 1 ≤ cs.length ∧ cs.all cellB = true) : ∃ a xs b ys z, v = .ref a ∧ SqT K H a xs ∧ xs[0]? = some (.ref b) ∧ SqT K H b (.str z :: ys) ∧ TAt N K H (.str z) (.str z) := by
  obtain ⟨cs, rfl, l, hc⟩ := h
  obtain ⟨a, xs, rfl, hx, hall⟩ := tup_v x
  cases hall with
  | nil => simp at l
  | cons y r =>
    rw [List.all_cons, Bool.and_eq_true] at hc
    obtain ⟨z, r', rfl⟩ := cell_fst hc.1
    cases y with
    | tup h l t => cases t with
      | cons y0 ys =>
        obtain rfl := str_v y0
        exact ⟨a, _, _, _, z, rfl, hx, rfl, h, y0⟩
theorem prog_first {t1 t2 t3 : Th} {k : Bool} (h : progB (.tup [t1, t2, t3, .bl k]) = true) : ∃ cs, t1 = .tup cs ∧ 1 ≤ cs.length ∧ cs.all cellB = true := by
  cases t1 with
  | tup cs => cases t2 with
    | tup ms => cases t3 with
      | tup ks =>
        rw [prog_eq] at h
        simp only [Bool.and_eq_true, decide_eq_true_eq] at h
        exact ⟨cs, rfl, h.1, h.2.2.1⟩
      | _ => cases h
    | _ => cases t3 <;> cases h
  | _ => cases t2 <;> cases t3 <;> cases h
def spOver (K : PySem.W.Frag) : Sp := fun vs H Q _ => ∃ (A : PA) (c : Nat) (p : Addr) (a b d : V) (t1 t2 t3 : Th) (k : Bool) (o : Int), vs = [.ref A.p, .ref p, .int o] ∧ Pool H A c ∧ c < 400000 ∧ SqT K H p [a, b, d, .bl k] ∧ TAt 10 K H a t1 ∧ TAt 10 K H b t2 ∧ TAt 10 K H d t3 ∧ progB (.tup [t1, t2, t3, .bl k]) = true ∧
  ∀ (H' : Hp) (v : V) (t : Th), Pool H' A (c + 60) → Kp A H H' → TAt 10 K H' v t → Q v H'
theorem rep_th {N n : Nat} {H : Hp} {v : V} {t : Th} (x : TAt N K H v t) : TAll N K H (List.replicate n [v]).flatten (List.replicate n t) := by
  induction n with
  | zero => exact .nil
  | succ n ih =>
    rw [List.replicate_succ, List.replicate_succ, List.flatten_cons]
    exact .cons x ih
theorem rep_len {v : V} : ∀ n : Nat, (List.replicate n [v]).flatten.length = n
  | 0 => rfl
  | n + 1 => by
    rw [List.replicate_succ, List.flatten_cons, List.length_append, rep_len n]
    show 1 + n = n + 1
    omega
theorem ok_over {f : Addr} {fd : FuncData} (F : Fun K "_law_overfull" "_law_overfull" s_law_overfull f fd) (T : Bi mg) (c_law_draw : Cal P w K mg base 1 "_law_draw" ["_law_pool_here", "_law_many"] spDraw) (c_law_names : Cal P w K mg base 3 "_law_names" ["_law_pool_here", "_law_many"] spLNames) :
    FnOk P w K mg base CX0 4 f fd ["_law_pool_here", "_law_thing", "_law_over"] (spOver K) := by
  refine F.ok sc_law_overfull (fun vs H Q E h => ?_) (fun cdv A outer s H vs Q E hr h => ?_)
  · obtain ⟨A, c, p, a, b, d, t1, t2, t3, k, o, rfl, _⟩ := h
    rfl
  · obtain ⟨PL, c, p, a, b, d, t1, t2, t3, k, o, rfl, P0, hc, hp, xa, xb, xd, bp, q⟩ := h
    refine ⟨_, (pss_cons (ps_asg (pv 1) (pg_tup rfl (pgs_cons (pg_name (i := 3) sc_law_overfull.nd rfl (.inl rfl)) (pgs_cons (pg_name (i := 4) sc_law_overfull.nd rfl (.inl rfl)) (pgs_cons (pg_name (i := 5) sc_law_overfull.nd rfl (.inl rfl)) (pgs_cons (pg_name (i := 6) sc_law_overfull.nd rfl (.inl rfl)) pgs_nil))))))
      (pss_cons (ps_set (i := 7) sc_law_overfull.nd rfl (.inl rfl) (pe_call c_law_names.G hr (by rfl) c_law_names.g c_law_names.kp c_law_names.b .nil pass0 (pa_cons (pv 0) (pa_cons pe_int pa_nil))))
      (pss_cons (ps_set (i := 8) sc_law_overfull.nd rfl (.inl rfl) (pe_tup (pa_cons (pe_ix ix_tup (pe_ix ix_tup (pv 3) pe_int (fun _ _ => rfl)) pe_int (fun _ _ => rfl)) (pa_cons pe_str (pa_cons pe_int pa_nil)))))
      (pss_cons (ps_if (pt_cmpR op_eq (pv 2) pe_int (nomark _))
        (pss_one (ps_ret (pe_tup (pa_cons (pe_callTy call_tuple_of (by rfl) T.tuple (by decide +kernel) (pa_cons (pe_lc (own := [("_law_name_here", 10)]) (g := gName 10) rfl sc_law_overfull.nd (pi_list (pe_slice sl_list (pv 7) po_none (po_some (pe_op op_add pe_int (pe_call c_law_draw.G (hr.mono (by decide)) (by rfl) c_law_draw.g c_law_draw.kp c_law_draw.b .nil pass0 (pa_cons (pv 0) (pa_cons pe_int pa_nil))))))) (blkOk_by (own := [("_law_name_here", 10)]) (N := ["_law_pool_here", "_law_thing", "_law_over", "_law_cells_here", "_law_commands", "_law_marks_here", "_law_keeps", "_law_more", "_law_test_here", "_law_many", "_law_name_here"]) (sc := defScope s_law_overfull) (by decide +kernel)) (fun _ _ _ _ _ => (pg_name (i := 10) sc_law_overfull.nd rfl (.inl rfl))) (fun _ _ _ _ _ => pts_nil) (fun _ _ _ _ _ => (pe_tup (pa_cons (pv 10) (pa_cons pe_int (pa_cons pe_int pa_nil)))))) pa_nil)) (pa_cons (pe_tup pa_nil) (pa_cons (pe_tup pa_nil) (pa_cons (pv 6) pa_nil)))))))
        pss_nil)
      (pss_cons (ps_if (pt_cmpR op_eq (pv 2) pe_int (nomark _))
        (pss_one (ps_ret (pe_tup (pa_cons (pv 3) (pa_cons (pe_callTy call_tuple_of (by rfl) T.tuple (by decide +kernel) (pa_cons (pe_lc (own := [("_law_name_here", 10)]) (g := gName 10) rfl sc_law_overfull.nd (pi_list (pe_slice sl_list (pv 7) po_none (po_some (pe_op op_add pe_int (pe_call c_law_draw.G (hr.mono (by decide)) (by rfl) c_law_draw.g c_law_draw.kp c_law_draw.b .nil pass0 (pa_cons (pv 0) (pa_cons pe_int pa_nil))))))) (blkOk_by (own := [("_law_name_here", 10)]) (N := ["_law_pool_here", "_law_thing", "_law_over", "_law_cells_here", "_law_commands", "_law_marks_here", "_law_keeps", "_law_more", "_law_test_here", "_law_many", "_law_name_here"]) (sc := defScope s_law_overfull) (by decide +kernel)) (fun _ _ _ _ _ => (pg_name (i := 10) sc_law_overfull.nd rfl (.inl rfl))) (fun _ _ _ _ _ => pts_nil) (fun _ _ _ _ _ => (pe_tup (pa_cons (pv 10) (pa_cons (pe_tup pa_nil) (pa_cons (pe_tup pa_nil) pa_nil)))))) pa_nil)) (pa_cons (pe_tup pa_nil) (pa_cons (pv 6) pa_nil)))))))
        pss_nil)
      (pss_cons (ps_if (pt_cmpR op_eq (pv 2) pe_int (nomark _))
        (pss_one (ps_ret (pe_tup (pa_cons (pv 3) (pa_cons (pv 4) (pa_cons (pe_callTy call_tuple_of (by rfl) T.tuple (by decide +kernel) (pa_cons (pe_lc (own := [("_law_name_here", 10)]) (g := gName 10) rfl sc_law_overfull.nd (pi_list (pe_slice sl_list (pv 7) po_none (po_some (pe_op op_add pe_int (pe_call c_law_draw.G (hr.mono (by decide)) (by rfl) c_law_draw.g c_law_draw.kp c_law_draw.b .nil pass0 (pa_cons (pv 0) (pa_cons pe_int pa_nil))))))) (blkOk_by (own := [("_law_name_here", 10)]) (N := ["_law_pool_here", "_law_thing", "_law_over", "_law_cells_here", "_law_commands", "_law_marks_here", "_law_keeps", "_law_more", "_law_test_here", "_law_many", "_law_name_here"]) (sc := defScope s_law_overfull) (by decide +kernel)) (fun _ _ _ _ _ => (pg_name (i := 10) sc_law_overfull.nd rfl (.inl rfl))) (fun _ _ _ _ _ => pts_nil) (fun _ _ _ _ _ => (pe_tup (pa_cons (pv 10) (pa_cons (pe_tup pa_nil) pa_nil))))) pa_nil)) (pa_cons (pv 6) pa_nil)))))))
        pss_nil)
      (pss_cons (ps_set (i := 9) sc_law_overfull.nd rfl (.inl rfl) (pe_op op_add pe_int (pe_call c_law_draw.G (hr.mono (by decide)) (by rfl) c_law_draw.g c_law_draw.kp c_law_draw.b .nil pass0 (pa_cons (pv 0) (pa_cons pe_int pa_nil)))))
      (pss_cons (ps_if (pt_cmpR op_eq (pv 2) pe_int (nomark _))
        (pss_one (ps_ret (pe_tup (pa_cons (pv 3) (pa_cons (pe_tup (pa_cons (pe_tup (pa_cons (pe_ix ix_list (pv 7) pe_int (fun _ _ => rfl)) (pa_cons (pe_op op_repQ (pe_tup (pa_cons (pv 8) pa_nil)) (pv 9)) (pa_cons (pe_tup pa_nil) pa_nil)))) pa_nil)) (pa_cons (pe_tup pa_nil) (pa_cons (pv 6) pa_nil)))))))
        pss_nil)
      (pss_cons (ps_if (pt_cmpR op_eq (pv 2) pe_int (nomark _))
        (pss_one (ps_ret (pe_tup (pa_cons (pv 3) (pa_cons (pv 4) (pa_cons (pe_tup (pa_cons (pe_tup (pa_cons (pe_ix ix_list (pv 7) pe_int (fun _ _ => rfl)) (pa_cons (pe_tup (pa_cons (pe_op op_repQ (pe_tup (pa_cons (pv 8) pa_nil)) (pv 9)) pa_nil)) pa_nil))) pa_nil)) (pa_cons (pv 6) pa_nil)))))))
        pss_nil)
      (pss_one (ps_ret (pe_tup (pa_cons (pv 3) (pa_cons (pv 4) (pa_cons (pe_tup (pa_cons (pe_tup (pa_cons (pe_ix ix_list (pv 7) pe_int (fun _ _ => rfl)) (pa_cons (pe_op op_repQ (pe_tup (pa_cons (pe_tup (pa_cons (pv 8) pa_nil)) pa_nil)) (pv 9)) pa_nil))) pa_nil)) (pa_cons (pv 6) pa_nil)))))))))))))))), ?_⟩
    refine ⟨_, rfl, p, _, rfl, hp, rfl, _, _, rfl, _, _, rfl, _, _, rfl, _, _, rfl, rfl, ?_⟩
    refine ⟨_, rfl, PL, _, 9, rfl, P0, by omega, by decide, fun H1 n7 zs P1 K1 h7 o7 _ g7 l7 => ?_⟩
    have l7 : zs.length = 9 := l7
    have tk1 := tk_kp (K := K) P0 P1 K1
    have xa1 := xa.tk tk1
    have xb1 := xb.tk tk1
    have xd1 := xd.tk tk1
    obtain ⟨a0, xs0, b0, ys0, z0, ea, hx0, hb0, hz0, xz0⟩ := cs_first xa1 (prog_first bp)
    subst ea
    refine ⟨_, rfl, a0, _, 0, .ref b0, rfl, rfl, hx0, at_of (j := 0) rfl hb0, b0, _, 0, .str z0, rfl, rfl, hz0, at_of (j := 0) rfl rfl, by show 3 ≤ sizeLine; decide, fun e8 he8 => ?_⟩
    have s8 := same_upd (o := .tup [.str z0, .str "is", .int 0]) he8
    have P2 := P1.same s8
    have K2 := K1.trans (skp (a := PL) s8)
    have h72 := s8 _ _ h7
    have x8 : TAt 10 K (L2.upd H1 e8 (.tup [.str z0, .str "is", .int 0])) (.ref e8) (.tup [.str z0, .str "is", .int 0]) := .tup (SqT.of upd_same) (by show 3 ≤ 10; decide) (.cons (xz0.same s8) (.cons (.str _ (by decide +kernel) (by decide +kernel)) (.cons (.int _) .nil)))
    have xa2 := xa1.same s8
    have xb2 := xb1.same s8
    have xd2 := xd1.same s8
    generalize L2.upd H1 e8 (.tup [.str z0, .str "is", .int 0]) = H2 at P2 K2 h72 x8 xa2 xb2 xd2
    have ix : ∀ z, zs[0]? = some z → atI (zs.map V.str) 0 = some (.str z) := fun z hz => at_of (j := 0) rfl (get_map hz)
    obtain ⟨z9, hz9⟩ : ∃ z, zs[0]? = some z := ⟨_, List.getElem?_eq_getElem (by omega)⟩
    have g9 := g7 z9 (List.mem_of_getElem? hz9)
    refine ⟨_, rfl, rfl, _, rfl, ite2 (fun _ => ?_) (fun _ => ⟨_, rfl, rfl, _, rfl, ite2 (fun _ => ?_) (fun _ => ⟨_, rfl, rfl, _, rfl, ite2 (fun _ => ?_) (fun _ => ?_)⟩)⟩)⟩
    · refine ⟨_, rfl, _, rfl, PL, _, 2, rfl, P2, by omega, by decide, by decide, fun H3 d _ _ P3 K3 => ⟨_, _, rfl, rfl, _, rfl, n7, _, rfl, SqL.of (K3 _ _ h72 o7), fun B hB => ?_⟩⟩
      obtain ⟨ws, ew, lw, mw⟩ := cut_map zs none (some (4 + d))
      dsimp only
      rw [ew]
      have sB := same_upd (o := .lst (ws.map V.str)) hB
      refine ⟨B, rfl, ⟨_, SqL.of upd_same⟩, fun D hD => lc_listT (a := B) (A := PL) 0 (fun i H' acc => ∃ ts, TAll 10 K H' acc ts) (fun i H H' acc k ⟨ts, x⟩ => ⟨ts, x.tk k⟩) (P3.same sB) upd_same (P3.off hB) hD (by rw [List.length_map]; omega) (fun _ => ⟨[], .nil⟩) (fun _ => rfl) ?_ ?_⟩
      · rintro i v H4 acc hi P4 K4 ⟨ts, all⟩ _ N1 N2 k1 k2
        obtain ⟨z, hz, rfl⟩ := map_get hi
        have gz := g7 z (mw z (List.mem_of_getElem? hz))
        refine ⟨_, rfl, by show 3 ≤ sizeLine; decide, fun p hp => ?_⟩
        have sp := same_upd (o := .tup [.str z, .int 1, .int 0]) hp
        exact k1 _ _ (P4.same sp) (skp sp) ⟨ts ++ [.tup [.str z, .int 1, .int 0]], TAll.snoc (.tup (SqT.of upd_same) (by show 3 ≤ 10; decide) (.cons (good_th gz) (.cons (.int _) (.cons (.int _) .nil)))) (all.tk (tk_same sp))⟩
      rintro H4 acc P4 K4 hD4 lacc ⟨ts, all⟩ oD
      rw [List.length_map] at lacc
      refine ⟨D, _, rfl, .inl ⟨SqL.of hD4, fun t ht => ⟨by show 0 ≤ sizeLine; decide, fun e1 h1 => ⟨by show 0 ≤ sizeLine; decide, fun e2 h2 => ⟨_, rfl, by show 4 ≤ sizeLine; decide, fun p hp => ?_⟩⟩⟩⟩⟩
      have st := same_upd (o := .tup acc) ht
      have s1 := same_upd (o := .tup []) h1
      have s2 := same_upd (o := .tup []) h2
      have sp := same_upd (o := .tup [.ref t, .ref e1, .ref e2, .bl k]) hp
      have s2p := s2.trans sp
      have s1p := s1.trans s2p
      have stp := st.trans s1p
      exact q _ _ (.tup [.tup ts, .tup [], .tup [], .bl k]) ((P4.same stp).mono (by omega)) ((((K2.trans K3).trans (skp sB)).trans K4).trans (skp stp)) (.tup (SqT.of upd_same) (by show 4 ≤ 10; decide) (.cons (.tup (ssqt s1p (SqT.of upd_same)) (by omega) (all.tk (tk_same stp))) (.cons (.tup (ssqt s2p (SqT.of upd_same)) (by show 0 ≤ 10; decide) .nil) (.cons (.tup (ssqt sp (SqT.of upd_same)) (by show 0 ≤ 10; decide) .nil) (.cons (.bl k) .nil)))))
    · refine ⟨_, rfl, _, rfl, _, rfl, PL, _, 2, rfl, P2, by omega, by decide, by decide, fun H3 d _ _ P3 K3 => ⟨_, _, rfl, rfl, _, rfl, n7, _, rfl, SqL.of (K3 _ _ h72 o7), fun B hB => ?_⟩⟩
      obtain ⟨ws, ew, lw, mw⟩ := cut_map zs none (some (8 + d))
      dsimp only
      rw [ew]
      have sB := same_upd (o := .lst (ws.map V.str)) hB
      refine ⟨B, rfl, ⟨_, SqL.of upd_same⟩, fun D hD => lc_listT (a := B) (A := PL) 0 (fun i H' acc => ∃ ts, TAll 10 K H' acc ts) (fun i H H' acc k ⟨ts, x⟩ => ⟨ts, x.tk k⟩) (P3.same sB) upd_same (P3.off hB) hD (by rw [List.length_map]; omega) (fun _ => ⟨[], .nil⟩) (fun _ => rfl) ?_ ?_⟩
      · rintro i v H4 acc hi P4 K4 ⟨ts, all⟩ _ N1 N2 k1 k2
        obtain ⟨z, hz, rfl⟩ := map_get hi
        have gz := g7 z (mw z (List.mem_of_getElem? hz))
        refine ⟨_, rfl, by show 0 ≤ sizeLine; decide, fun e1 h1 => ⟨by show 0 ≤ sizeLine; decide, fun e2 h2 => ⟨by show 3 ≤ sizeLine; decide, fun p hp => ?_⟩⟩⟩
        have s1 := same_upd (o := .tup []) h1
        have s2 := same_upd (o := .tup []) h2
        have sp := same_upd (o := .tup [.str z, .ref e1, .ref e2]) hp
        have s2p := s2.trans sp
        have s1p := s1.trans s2p
        exact k1 _ _ (P4.same s1p) (skp s1p) ⟨ts ++ [.tup [.str z, .tup [], .tup []]], TAll.snoc (.tup (SqT.of upd_same) (by show 3 ≤ 10; decide) (.cons (good_th gz) (.cons (.tup (ssqt s2p (SqT.of upd_same)) (by show 0 ≤ 10; decide) .nil) (.cons (.tup (ssqt sp (SqT.of upd_same)) (by show 0 ≤ 10; decide) .nil) .nil)))) (all.tk (tk_same s1p))⟩
      rintro H4 acc P4 K4 hD4 lacc ⟨ts, all⟩ oD
      rw [List.length_map] at lacc
      have tk4 := ((tk_kp (K := K) P2 P3 K3).trans (tk_same sB)).trans (tk_kp (P3.same sB) P4 K4)
      refine ⟨D, _, rfl, .inl ⟨SqL.of hD4, fun t ht => ⟨by show 0 ≤ sizeLine; decide, fun e1 h1 => ⟨_, rfl, by show 4 ≤ sizeLine; decide, fun p hp => ?_⟩⟩⟩⟩
      have st := same_upd (o := .tup acc) ht
      have s1 := same_upd (o := .tup []) h1
      have sp := same_upd (o := .tup [.ref a0, .ref t, .ref e1, .bl k]) hp
      have s1p := s1.trans sp
      have stp := st.trans s1p
      exact q _ _ (.tup [t1, .tup ts, .tup [], .bl k]) ((P4.same stp).mono (by omega)) ((((K2.trans K3).trans (skp sB)).trans K4).trans (skp stp)) (.tup (SqT.of upd_same) (by show 4 ≤ 10; decide) (.cons ((xa2.tk tk4).same stp) (.cons (.tup (ssqt s1p (SqT.of upd_same)) (by omega) (all.tk (tk_same stp))) (.cons (.tup (ssqt sp (SqT.of upd_same)) (by show 0 ≤ 10; decide) .nil) (.cons (.bl k) .nil)))))
    · refine ⟨_, rfl, _, rfl, _, rfl, _, rfl, PL, _, 2, rfl, P2, by omega, by decide, by decide, fun H3 d _ _ P3 K3 => ⟨_, _, rfl, rfl, _, rfl, n7, _, rfl, SqL.of (K3 _ _ h72 o7), fun B hB => ?_⟩⟩
      obtain ⟨ws, ew, lw, mw⟩ := cut_map zs none (some (8 + d))
      dsimp only
      rw [ew]
      have sB := same_upd (o := .lst (ws.map V.str)) hB
      refine ⟨B, rfl, ⟨_, SqL.of upd_same⟩, fun D hD => lc_listT (a := B) (A := PL) 0 (fun i H' acc => ∃ ts, TAll 10 K H' acc ts) (fun i H H' acc k ⟨ts, x⟩ => ⟨ts, x.tk k⟩) (P3.same sB) upd_same (P3.off hB) hD (by rw [List.length_map]; omega) (fun _ => ⟨[], .nil⟩) (fun _ => rfl) ?_ ?_⟩
      · rintro i v H4 acc hi P4 K4 ⟨ts, all⟩ _ N1 N2 k1 k2
        obtain ⟨z, hz, rfl⟩ := map_get hi
        have gz := g7 z (mw z (List.mem_of_getElem? hz))
        refine ⟨_, rfl, by show 0 ≤ sizeLine; decide, fun e1 h1 => ⟨by show 2 ≤ sizeLine; decide, fun p hp => ?_⟩⟩
        have s1 := same_upd (o := .tup []) h1
        have sp := same_upd (o := .tup [.str z, .ref e1]) hp
        have s1p := s1.trans sp
        exact k1 _ _ (P4.same s1p) (skp s1p) ⟨ts ++ [.tup [.str z, .tup []]], TAll.snoc (.tup (SqT.of upd_same) (by show 2 ≤ 10; decide) (.cons (good_th gz) (.cons (.tup (ssqt sp (SqT.of upd_same)) (by show 0 ≤ 10; decide) .nil) .nil))) (all.tk (tk_same s1p))⟩
      rintro H4 acc P4 K4 hD4 lacc ⟨ts, all⟩ oD
      rw [List.length_map] at lacc
      have tk4 := ((tk_kp (K := K) P2 P3 K3).trans (tk_same sB)).trans (tk_kp (P3.same sB) P4 K4)
      refine ⟨D, _, rfl, .inl ⟨SqL.of hD4, fun t ht => ⟨_, rfl, by show 4 ≤ sizeLine; decide, fun p hp => ?_⟩⟩⟩
      have st := same_upd (o := .tup acc) ht
      have sp := same_upd (o := .tup [.ref a0, b, .ref t, .bl k]) hp
      have stp := st.trans sp
      exact q _ _ (.tup [t1, t2, .tup ts, .bl k]) ((P4.same stp).mono (by omega)) ((((K2.trans K3).trans (skp sB)).trans K4).trans (skp stp)) (.tup (SqT.of upd_same) (by show 4 ≤ 10; decide) (.cons ((xa2.tk tk4).same stp) (.cons ((xb2.tk tk4).same stp) (.cons (.tup (ssqt sp (SqT.of upd_same)) (by omega) (all.tk (tk_same stp))) (.cons (.bl k) .nil)))))
    · refine ⟨_, rfl, PL, _, 2, rfl, P2, by omega, by decide, by decide, fun H3 d d0 d1 P3 K3 => ⟨_, _, rfl, rfl, ?_⟩⟩
      have tk3 := tk_kp (K := K) P2 P3 K3
      have x83 := x8.tk tk3
      have xa3 := xa2.tk tk3
      have xb3 := xb2.tk tk3
      have K03 := K2.trans K3
      have h73 := K3 _ _ h72 o7
      have P3 : Pool H3 PL (c + 60) := P3.mono (by omega)
      have lr : (4 + d).toNat ≤ 10 := by omega
      refine ⟨_, rfl, rfl, _, rfl, ite2 (fun _ => ?_) (fun _ => ⟨_, rfl, rfl, _, rfl, ite2 (fun _ => ?_) (fun _ => ?_)⟩)⟩
      · refine ⟨_, rfl, _, rfl, n7, _, 0, _, rfl, rfl, SqL.of h73, ix z9 hz9, _, rfl, by show 1 ≤ sizeLine; decide, fun e1 h1 => ?_⟩
        have s1 := same_upd (o := .tup [.ref e8]) h1
        refine ⟨_, rfl, e1, _, _, rfl, rfl, SqT.of upd_same, by simp, by show (1 : Int) ≤ 4 + d; omega, by show 4 + d ≤ (1000 : Int); omega, by show 1 ≤ 1000; decide, fun e2 H4 s2 h2 => ?_⟩
        refine ⟨by show 0 ≤ sizeLine; decide, fun e3 h3 => ⟨by show 3 ≤ sizeLine; decide, fun e4 h4 => ⟨by show 1 ≤ sizeLine; decide, fun e5 h5 => ⟨by show 0 ≤ sizeLine; decide, fun e6 h6 => ⟨_, rfl, by show 4 ≤ sizeLine; decide, fun p hp => ?_⟩⟩⟩⟩⟩
        have s3 := same_upd (o := .tup []) h3
        have s4 := same_upd (o := .tup [.str z9, .ref e2, .ref e3]) h4
        have s5 := same_upd (o := .tup [.ref e4]) h5
        have s6 := same_upd (o := .tup []) h6
        have sp := same_upd (o := .tup [.ref a0, .ref e5, .ref e6, .bl k]) hp
        have r6 := s6.trans sp
        have r5 := s5.trans r6
        have r4 := s4.trans r5
        have r3 := s3.trans r4
        have r1 := (s1.trans s2).trans r3
        exact q _ _ (.tup [t1, .tup [.tup [.str z9, .tup (List.replicate (4 + d).toNat (.tup [.str z0, .str "is", .int 0])), .tup []]], .tup [], .bl k]) (P3.same r1) (K03.trans (skp r1)) (.tup (SqT.of upd_same) (by show 4 ≤ 10; decide) (.cons (xa3.same r1) (.cons (.tup (ssqt r6 (SqT.of upd_same)) (by show 1 ≤ 10; decide) (.cons (.tup (ssqt r5 (SqT.of upd_same)) (by show 3 ≤ 10; decide) (.cons (good_th g9) (.cons (.tup (ssqt r3 h2) (by rw [rep_len]; exact lr) (rep_th (x83.same r1))) (.cons (.tup (ssqt r4 (SqT.of upd_same)) (by show 0 ≤ 10; decide) .nil) .nil)))) .nil)) (.cons (.tup (ssqt sp (SqT.of upd_same)) (by show 0 ≤ 10; decide) .nil) (.cons (.bl k) .nil)))))
      · refine ⟨_, rfl, _, rfl, _, rfl, n7, _, 0, _, rfl, rfl, SqL.of h73, ix z9 hz9, _, rfl, by show 1 ≤ sizeLine; decide, fun e1 h1 => ?_⟩
        have s1 := same_upd (o := .tup [.ref e8]) h1
        refine ⟨_, rfl, e1, _, _, rfl, rfl, SqT.of upd_same, by simp, by show (1 : Int) ≤ 4 + d; omega, by show 4 + d ≤ (1000 : Int); omega, by show 1 ≤ 1000; decide, fun e2 H4 s2 h2 => ?_⟩
        refine ⟨by show 1 ≤ sizeLine; decide, fun e3 h3 => ⟨by show 2 ≤ sizeLine; decide, fun e4 h4 => ⟨by show 1 ≤ sizeLine; decide, fun e5 h5 => ⟨_, rfl, by show 4 ≤ sizeLine; decide, fun p hp => ?_⟩⟩⟩⟩
        have s3 := same_upd (o := .tup [.ref e2]) h3
        have s4 := same_upd (o := .tup [.str z9, .ref e3]) h4
        have s5 := same_upd (o := .tup [.ref e4]) h5
        have sp := same_upd (o := .tup [.ref a0, b, .ref e5, .bl k]) hp
        have r5 := s5.trans sp
        have r4 := s4.trans r5
        have r3 := s3.trans r4
        have r1 := (s1.trans s2).trans r3
        exact q _ _ (.tup [t1, t2, .tup [.tup [.str z9, .tup [.tup (List.replicate (4 + d).toNat (.tup [.str z0, .str "is", .int 0]))]]], .bl k]) (P3.same r1) (K03.trans (skp r1)) (.tup (SqT.of upd_same) (by show 4 ≤ 10; decide) (.cons (xa3.same r1) (.cons (xb3.same r1) (.cons (.tup (ssqt sp (SqT.of upd_same)) (by show 1 ≤ 10; decide) (.cons (.tup (ssqt r5 (SqT.of upd_same)) (by show 2 ≤ 10; decide) (.cons (good_th g9) (.cons (.tup (ssqt r4 (SqT.of upd_same)) (by show 1 ≤ 10; decide) (.cons (.tup (ssqt r3 h2) (by rw [rep_len]; exact lr) (rep_th (x83.same r1))) .nil)) .nil))) .nil)) (.cons (.bl k) .nil)))))
      · refine ⟨_, rfl, _, rfl, _, rfl, n7, _, 0, _, rfl, rfl, SqL.of h73, ix z9 hz9, _, rfl, by show 1 ≤ sizeLine; decide, fun e0 h0 => ⟨by show 1 ≤ sizeLine; decide, fun e1 h1 => ?_⟩⟩
        have s0 := same_upd (o := .tup [.ref e8]) h0
        have s1 := same_upd (o := .tup [.ref e0]) h1
        refine ⟨_, rfl, e1, _, _, rfl, rfl, SqT.of upd_same, by simp, by show (1 : Int) ≤ 4 + d; omega, by show 4 + d ≤ (1000 : Int); omega, by show 1 ≤ 1000; decide, fun e2 H4 s2 h2 => ?_⟩
        refine ⟨by show 2 ≤ sizeLine; decide, fun e4 h4 => ⟨by show 1 ≤ sizeLine; decide, fun e5 h5 => ⟨_, rfl, by show 4 ≤ sizeLine; decide, fun p hp => ?_⟩⟩⟩
        have s4 := same_upd (o := .tup [.str z9, .ref e2]) h4
        have s5 := same_upd (o := .tup [.ref e4]) h5
        have sp := same_upd (o := .tup [.ref a0, b, .ref e5, .bl k]) hp
        have r5 := s5.trans sp
        have r4 := s4.trans r5
        have r1 := (s1.trans s2).trans r4
        have r0 := s0.trans r1
        have x0 : TAt 10 K _ (.ref e0) (.tup [.tup [.str z0, .str "is", .int 0]]) := .tup (ssqt r1 (SqT.of upd_same)) (by show 1 ≤ 10; decide) (.cons (x83.same r0) .nil)
        exact q _ _ (.tup [t1, t2, .tup [.tup [.str z9, .tup (List.replicate (4 + d).toNat (.tup [.tup [.str z0, .str "is", .int 0]]))]], .bl k]) (P3.same r0) (K03.trans (skp r0)) (.tup (SqT.of upd_same) (by show 4 ≤ 10; decide) (.cons (xa3.same r0) (.cons (xb3.same r0) (.cons (.tup (ssqt sp (SqT.of upd_same)) (by show 1 ≤ 10; decide) (.cons (.tup (ssqt r5 (SqT.of upd_same)) (by show 2 ≤ 10; decide) (.cons (good_th g9) (.cons (.tup (ssqt r4 h2) (by rw [rep_len]; exact lr) (rep_th x0)) .nil))) .nil)) (.cons (.bl k) .nil)))))
theorem pair_shaped (b : Bool) : SeqAt.shaped (.list ([b, !b].map PyData.bool)) = true := by cases b <;> decide +kernel
theorem pair_eqv (b : Bool) : PyData.eqv (.list ([b, !b].map PyData.bool)) (.list ([b, !b].map PyData.bool)) = true := by cases b <;> decide +kernel
def spLaw (K : PySem.W.Frag) : Sp := fun vs H Q _ => ∃ (l : Addr) (ns : List Int), vs = [.ref l] ∧ SqL K H l (ns.map V.int) ∧ ns.length ≤ 63 ∧ ∀ H', Q (.bl true) H'
theorem ok_law {f : Addr} {fd : FuncData} (F : Fun K "law" "law" slaw f fd) (S : XOne K mg "NoProgram") (T : Bi mg) (c_law_pool : Cal P w K mg base 1 "_law_pool" ["_law_script"] (spPool K)) (c_law_draw : Cal P w K mg base 1 "_law_draw" ["_law_pool_here", "_law_many"] spDraw) (c_law_program : Cal P w K mg base 6 "_law_program" ["_law_pool_here", "_law_room", "_law_commands", "_law_marks_here"] (spLProgram K))
    (c_law_overfull : Cal P w K mg base 4 "_law_overfull" ["_law_pool_here", "_law_thing", "_law_over"] (spOver K)) (c_law_bent : Cal P w K mg base 10 "_law_bent" ["_law_pool_here", "_law_thing", "_law_deep"] (spB K 8)) (c_law_is_program : Cal P w K mg base 7 "_law_is_program" ["_law_thing"] (spProg K))
    (c_law_checked : Cal P w K mg base 9 "_law_checked" ["_law_thing"] (spChecked K progB)) (c_law_by_base : Cal P w K mg base 9 "_law_by_base" ["_law_thing"] (spByBase K progB)) (ccheck : CalX P w K mg base 8 "check" ["thing"] (spCk K S.R)) :
    FnOk P w K mg base CX0 11 f fd ["_law_script"] (spLaw K) := by
  refine F.ok sclaw (fun vs H Q E h => ?_) (fun cdv A outer s H vs Q E hr h => ?_)
  · obtain ⟨l, ns, rfl, _⟩ := h
    rfl
  · obtain ⟨l, ns, rfl, hS, hlen, q⟩ := h
    refine ⟨_, (pss_cons (ps_set (i := 1) sclaw.nd rfl (.inl rfl) (pe_call c_law_pool.G (hr.mono (by decide)) (by rfl) c_law_pool.g c_law_pool.kp c_law_pool.b .nil pass0 (pa_cons (pv 0) pa_nil)))
      (pss_cons (ps_set (i := 2) sclaw.nd rfl (.inl rfl) (pe_cmpR op_eq (pe_call c_law_draw.G (hr.mono (by decide)) (by rfl) c_law_draw.g c_law_draw.kp c_law_draw.b .nil pass0 (pa_cons (pv 1) (pa_cons pe_int pa_nil))) pe_int (nomark _)))
      (pss_cons (ps_set (i := 3) sclaw.nd rfl (.inl rfl) (pe_call c_law_draw.G (hr.mono (by decide)) (by rfl) c_law_draw.g c_law_draw.kp c_law_draw.b .nil pass0 (pa_cons (pv 1) (pa_cons pe_int pa_nil))))
      (pss_cons (ps_set (i := 4) sclaw.nd rfl (.inl rfl) (pe_call c_law_program.G (hr.mono (by decide)) (by rfl) c_law_program.g c_law_program.kp c_law_program.b .nil pass0 (pa_cons (pv 1) (pa_cons pe_int (pa_cons pe_int (pa_cons pe_int pa_nil))))))
      (Evl.pss_cut (ps_if (pt_cmpR op_lt (pv 3) pe_int (nomark _))
        (pss_one (ps_set (i := 4) sclaw.nd rfl (.inl rfl) (pe_call c_law_overfull.G (hr.mono (by decide)) (by rfl) c_law_overfull.g c_law_overfull.kp c_law_overfull.b .nil pass0 (pa_cons (pv 1) (pa_cons (pv 4) (pa_cons (pv 3) pa_nil))))))
        pss_nil)
      (Evl.pss_cut (ps_if (pt_not (pt_val (pv 2)))
        (pss_one (ps_set (i := 4) sclaw.nd rfl (.inl rfl) (pe_call c_law_bent.G hr (by rfl) c_law_bent.g c_law_bent.kp c_law_bent.b .nil pass0 (pa_cons (pv 1) (pa_cons (pv 4) (pa_cons pe_int pa_nil))))))
        pss_nil)
      (pss_cons (ps_set (i := 5) sclaw.nd rfl (.inl rfl) (pe_call c_law_is_program.G (hr.mono (by decide)) (by rfl) c_law_is_program.g c_law_is_program.kp c_law_is_program.b .nil pass0 (pa_cons (pv 4) pa_nil)))
      (pss_cons (ps_for PassesOwn.never rfl (pi_range1 (by rfl) T.range (pa_cons pe_int pa_nil)) (pg_name (i := 6) sclaw.nd rfl (.inl rfl))
        (pss_cons (ps_set (i := 7) sclaw.nd rfl (.inl rfl) (pe_call c_law_checked.G (hr.mono (by decide)) (by rfl) c_law_checked.g c_law_checked.kp c_law_checked.b .nil pass0 (pa_cons (pv 4) pa_nil)))
        (pss_cons (ps_if (pt_cmpR (op_neD hr.units) (pv 7) (pe_lst (pa_cons (pv 5) (pa_cons (pe_not (pv 5)) pa_nil))) (nomark _))
          (pss_one (ps_ret pe_bl))
          pss_nil)
        (pss_cons (ps_if (PW.pt (pw_and (pt_not (pt_val (pv 5))) (pw_and1 (pt_not (pt_val (pe_call c_law_by_base.G (hr.mono (by decide)) (by rfl) c_law_by_base.g c_law_by_base.kp c_law_by_base.b .nil pass0 (pa_cons (pv 4) pa_nil)))))))
          (pss_one (ps_ret pe_bl))
          pss_nil)
        (pss_one (ps_if (pt_cmpR op_isnot_bl (pe_callS ccheck.G (hr.mono (by decide)) (by rfl) ccheck.g ccheck.kp ccheck.b (fun σ => passAt takes0 σ) (pa_cons (pe_tup (pa_cons (pe_tup (pa_cons (pe_tup (pa_cons pe_str (pa_cons pe_int (pa_cons pe_int pa_nil)))) pa_nil)) (pa_cons (pe_tup pa_nil) (pa_cons (pe_tup pa_nil) (pa_cons pe_bl pa_nil))))) pa_nil)) pe_bl (nomark _))
          (pss_one (ps_ret pe_bl))
          pss_nil))))))
      (pss_one (ps_ret pe_bl)))))))))), ?_⟩
    refine ⟨_, rfl, l, ns, rfl, hS, hlen, fun H1 PL s1 P1 => ?_⟩
    refine ⟨_, rfl, PL, 0, 5, rfl, P1, by decide, by decide, by decide, fun H2 x _ _ P2 _ => ⟨rfl, ?_⟩⟩
    generalize decide (V.int x = V.int 0) = whole
    refine ⟨_, rfl, PL, _, 12, rfl, P2, by decide, by decide, by decide, fun H3 o _ _ P3 _ => ?_⟩
    refine ⟨_, rfl, PL, _, 6561, 4, 3, rfl, P3, by decide, by decide, by decide, by decide, by decide, fun H4 p a b d t1 t2 t3 k P4 K4 hp xa xb xd bp => ?_⟩
    have xp : TAt 10 K H4 (.ref p) (.tup [t1, t2, t3, .bl k]) := .tup hp (by show 4 ≤ 10; decide) (.cons xa (.cons xb (.cons xd (.cons (.bl k) .nil))))
    refine ⟨fun σ H' => ∃ (v : V) (t : Th), σ = [some (.ref l), some (.ref PL.p), some (.bl whole), some (.int o), some v, none, none, none] ∧ Pool H' PL 4000 ∧ TAt 10 K H' v t, ?_, ?_⟩
    · refine ⟨_, rfl, _, _, rfl, rfl, _, rfl, ite2 (fun e => ?_) (fun e => ?_)⟩
      · exact ⟨_, rfl, _, rfl, _, rfl, PL, _, p, a, b, d, t1, t2, t3, k, o, rfl, P4, by decide, hp, xa, xb, xd, bp, fun H5 v t P5 _ x => ⟨v, t, rfl, P5.mono (by omega), x⟩⟩
      · exact ⟨_, _, rfl, P4.mono (by omega), xp⟩
    rintro σ H5 ⟨v0, t0, rfl, P5, x0⟩
    refine ⟨fun σ H' => ∃ (v : V) (t : Th) (N : Nat), σ = [some (.ref l), some (.ref PL.p), some (.bl whole), some (.int o), some v, none, none, none] ∧ TAt N K H' v t, ?_, ?_⟩
    · refine ⟨_, rfl, _, rfl, ?_⟩
      cases whole with
      | true => exact iteF ⟨_, t0, 10, rfl, x0⟩
      | false => exact iteT ⟨_, rfl, _, rfl, PL, 4000, 10, _, t0, 7, rfl, P5, by decide, by decide, by decide, x0, by decide, by decide, by decide, fun H9 v' t' _ _ x' => ⟨v', t', 11, rfl, x'⟩⟩
    rintro σ H6 ⟨v, t, N, rfl, x⟩
    refine ⟨_, rfl, v, t, N, rfl, x, fun H7 s7 => ?_⟩
    have x7 := x.same s7
    refine ⟨2, rfl, by decide, by decide, for_range (lo := 0) (n := 2) (fun i σ H' => ∃ y6 y7 : Option V, σ = [some (.ref l), some (.ref PL.p), some (.bl whole), some (.int o), some v, some (.bl (progB t)), y6, y7] ∧ Same H7 H') ⟨none, none, rfl, Same.refl _⟩ ?_ ?_⟩
    · rintro i σ H8 hi ⟨y6, y7, rfl, s8⟩
      have x8 := x7.same s8
      refine ⟨_, rfl, v, t, N, rfl, x8, fun H9 la s9 hl9 => ?_⟩
      refine ⟨_, rfl, _, rfl, _, rfl, progB t, rfl, by show 2 ≤ sizeLine; decide, fun L hL => ?_⟩
      have sL := same_upd (o := .lst [.bl (progB t), .bl (!progB t)]) hL
      refine ⟨_, _, .lst (SqL.of (sL _ _ hl9)) (dpa_bls [progB t, !progB t]), .lst (SqL.of upd_same) (dpa_bls [progB t, !progB t]), pair_shaped _, pair_shaped _, ?_⟩
      rw [pair_eqv]
      have s10 := (s8.trans s9).trans sL
      have x10 := (x8.same s9).same sL
      generalize L2.upd H9 L (.lst [.bl (progB t), .bl (!progB t)]) = H10 at s10 x10
      refine ⟨_, rfl, iteF ?_⟩
      refine ⟨_, rfl, _, rfl, ite2 (fun e => ⟨_, rfl, v, t, N, rfl, x10, by simpa using e, fun H11 s11 => ⟨_, rfl, iteF ?_⟩⟩) (fun e => ?_)⟩
      · have s11 := s10.trans s11
        refine ⟨by show 3 ≤ sizeLine; decide, fun e1 h1 => ⟨by show 1 ≤ sizeLine; decide, fun e2 h2 => ⟨by show 0 ≤ sizeLine; decide, fun e3 h3 => ⟨by show 0 ≤ sizeLine; decide, fun e4 h4 => ⟨by show 4 ≤ sizeLine; decide, fun e5 h5 => ?_⟩⟩⟩⟩⟩
        have s1 := same_upd (o := .tup [.str "a", .int 1, .int 0]) h1
        have s2 := same_upd (o := .tup [.ref e1]) h2
        have s3 := same_upd (o := .tup []) h3
        have s4 := same_upd (o := .tup []) h4
        have s5 := same_upd (o := .tup [.ref e2, .ref e3, .ref e4, .bl false]) h5
        have r4 := s4.trans s5
        have r3 := s3.trans r4
        have r2 := s2.trans r3
        refine ⟨_, .tup [.tup [.tup [.str "a", .int 1, .int 0]], .tup [], .tup [], .bl false], 10, rfl, .tup (SqT.of upd_same) (by show 4 ≤ 10; decide) (.cons (.tup (ssqt r3 (SqT.of upd_same)) (by show 1 ≤ 10; decide) (.cons (.tup (ssqt r2 (SqT.of upd_same)) (by show 3 ≤ 10; decide) (.cons (.str _ (by decide +kernel) (by decide +kernel)) (.cons (.int 1) (.cons (.int 0) .nil)))) .nil)) (.cons (.tup (ssqt r4 (SqT.of upd_same)) (by show 0 ≤ 10; decide) .nil) (.cons (.tup (ssqt s5 (SqT.of upd_same)) (by show 0 ≤ 10; decide) .nil) (.cons (.bl false) .nil)))), fun _ H12 s12 => ⟨_, _, rfl, rfl, _, rfl, iteF ⟨_, _, rfl, s11.trans ((s1.trans r2).trans s12)⟩⟩, fun h => absurd h (by decide +kernel)⟩
      · refine ⟨by show 3 ≤ sizeLine; decide, fun e1 h1 => ⟨by show 1 ≤ sizeLine; decide, fun e2 h2 => ⟨by show 0 ≤ sizeLine; decide, fun e3 h3 => ⟨by show 0 ≤ sizeLine; decide, fun e4 h4 => ⟨by show 4 ≤ sizeLine; decide, fun e5 h5 => ?_⟩⟩⟩⟩⟩
        have s1 := same_upd (o := .tup [.str "a", .int 1, .int 0]) h1
        have s2 := same_upd (o := .tup [.ref e1]) h2
        have s3 := same_upd (o := .tup []) h3
        have s4 := same_upd (o := .tup []) h4
        have s5 := same_upd (o := .tup [.ref e2, .ref e3, .ref e4, .bl false]) h5
        have r4 := s4.trans s5
        have r3 := s3.trans r4
        have r2 := s2.trans r3
        refine ⟨_, .tup [.tup [.tup [.str "a", .int 1, .int 0]], .tup [], .tup [], .bl false], 10, rfl, .tup (SqT.of upd_same) (by show 4 ≤ 10; decide) (.cons (.tup (ssqt r3 (SqT.of upd_same)) (by show 1 ≤ 10; decide) (.cons (.tup (ssqt r2 (SqT.of upd_same)) (by show 3 ≤ 10; decide) (.cons (.str _ (by decide +kernel) (by decide +kernel)) (.cons (.int 1) (.cons (.int 0) .nil)))) .nil)) (.cons (.tup (ssqt r4 (SqT.of upd_same)) (by show 0 ≤ 10; decide) .nil) (.cons (.tup (ssqt s5 (SqT.of upd_same)) (by show 0 ≤ 10; decide) .nil) (.cons (.bl false) .nil)))), fun _ H12 s12 => ⟨_, _, rfl, rfl, _, rfl, iteF ⟨_, _, rfl, s10.trans ((s1.trans r2).trans s12)⟩⟩, fun h => absurd h (by decide +kernel)⟩
    · rintro σ H8 ⟨y6, y7, rfl, s8⟩
      exact q _
end

/-! ### what the top has written; the law's own head -/
theorem all_mk {l : PySem.W.OpenLaw} {w : World} {K : PySem.W.Frag} {h : Heap} {mg : Str → Option Value} {fa f1 f2 f3 f4 f5 f6 f7 f8 f9 f10 f11 f12 f13 f14 f15 f16 f17 f18 f19 f20 f21 f22 f23 f24 f25 f26 f27 f28 f29 f30 f31 f32 f33 f34 f35 f36 f37 f38 f39 f40 f41 f42 f43 f44 f45 : Addr} (X : K.In h) (G : h.Ns mainGlobals mg) (hfa : mg "law" = some (.ref fa))
    {od1 an1 od2 an2 od3 an3 od4 an4 od5 an5 od6 an6 od7 an7 od8 an8 od9 an9 od10 an10 od11 an11 od12 an12 od13 an13 od14 an14 od15 an15 od16 an16 od17 an17 od18 an18 od19 an19 od20 an20 od21 an21 od22 an22 od23 an23 od24 an24 od25 an25 od26 an26 od27 an27 od28 an28 od29 an29 od30 an30 od31 an31 od32 an32 od33 an33 od34 an34 od35 an35 od36 an36 od37 an37 od38 an38 od39 an39 od40 an40 od41 an41 od42 an42 od43 an43 od44 an44 od45 an45 : Option Addr} {sl1 sl2 sl3 sl4 sl5 sl6 sl7 sl8 sl9 sl10 sl11 sl12 sl13 sl14 sl15 sl16 sl17 sl18 sl19 sl20 sl21 sl22 sl23 sl24 sl25 sl26 sl27 sl28 sl29 sl30 sl31 sl32 sl33 sl34 sl35 sl36 sl37 sl38 sl39 sl40 sl41 sl42 sl43 sl44 sl45 : Array (Option Value)} {oc1 kV1 dc1 pm1 cd1 ct1 oc2 kV2 dc2 pm2 cd2 ct2 oc3 kV3 dc3 pm3 cd3 ct3 oc4 kV4 dc4 pm4 cd4 ct4 oc5 kV5 dc5 pm5 cd5 ct5 oc6 kV6 dc6 pm6 cd6 ct6 oc7 kV7 dc7 pm7 cd7 ct7 oc8 kV8 dc8 pm8 cd8 ct8 oc9 kV9 dc9 pm9 cd9 ct9 oc10 kV10 dc10 pm10 cd10 ct10 oc11 kV11 dc11 pm11 cd11 ct11 oc12 kV12 dc12 pm12 cd12 ct12 oc13 kV13 dc13 pm13 cd13 ct13 oc14 kV14 dc14 pm14 cd14 ct14 oc15 kV15 dc15 pm15 cd15 ct15 oc16 kV16 dc16 pm16 cd16 ct16 oc17 kV17 dc17 pm17 cd17 ct17 oc18 kV18 dc18 pm18 cd18 ct18 oc19 kV19 dc19 pm19 cd19 ct19 oc20 kV20 dc20 pm20 cd20 ct20 oc21 kV21 dc21 pm21 cd21 ct21 oc22 kV22 dc22 pm22 cd22 ct22 oc23 kV23 dc23 pm23 cd23 ct23 oc24 kV24 dc24 pm24 cd24 ct24 oc25 kV25 dc25 pm25 cd25 ct25 oc26 kV26 dc26 pm26 cd26 ct26 oc27 kV27 dc27 pm27 cd27 ct27 oc28 kV28 dc28 pm28 cd28 ct28 oc29 kV29 dc29 pm29 cd29 ct29 oc30 kV30 dc30 pm30 cd30 ct30 oc31 kV31 dc31 pm31 cd31 ct31 oc32 kV32 dc32 pm32 cd32 ct32 oc33 kV33 dc33 pm33 cd33 ct33 oc34 kV34 dc34 pm34 cd34 ct34 oc35 kV35 dc35 pm35 cd35 ct35 oc36 kV36 dc36 pm36 cd36 ct36 oc37 kV37 dc37 pm37 cd37 ct37 oc38 kV38 dc38 pm38 cd38 ct38 oc39 kV39 dc39 pm39 cd39 ct39 oc40 kV40 dc40 pm40 cd40 ct40 oc41 kV41 dc41 pm41 cd41 ct41 oc42 kV42 dc42 pm42 cd42 ct42 oc43 kV43 dc43 pm43 cd43 ct43 oc44 kV44 dc44 pm44 cd44 ct44 oc45 kV45 dc45 pm45 cd45 ct45 : Value}
    (a1 : PySem.W.nsIn K mainGlobals "is_whole" = some (some (.ref f1))) (l1 : K.lookup f1 = some ⟨oc1, od1, .func (PySem.W.fnOf "is_whole" "is_whole" (defArgs sis_whole) (defBody sis_whole) (defScope sis_whole) .none kV1 dc1 pm1 an1 cd1 ct1), sl1⟩) (c1 : PySem.W.codeIn K cd1 "is_whole" = true) (k1 : PySem.W.keepIn K (.ref f1) = true)
    (a2 : PySem.W.nsIn K mainGlobals "is_number" = some (some (.ref f2))) (l2 : K.lookup f2 = some ⟨oc2, od2, .func (PySem.W.fnOf "is_number" "is_number" (defArgs sis_number) (defBody sis_number) (defScope sis_number) .none kV2 dc2 pm2 an2 cd2 ct2), sl2⟩) (c2 : PySem.W.codeIn K cd2 "is_number" = true) (k2 : PySem.W.keepIn K (.ref f2) = true)
    (a3 : PySem.W.nsIn K mainGlobals "is_row" = some (some (.ref f3))) (l3 : K.lookup f3 = some ⟨oc3, od3, .func (PySem.W.fnOf "is_row" "is_row" (defArgs sis_row) (defBody sis_row) (defScope sis_row) .none kV3 dc3 pm3 an3 cd3 ct3), sl3⟩) (c3 : PySem.W.codeIn K cd3 "is_row" = true) (k3 : PySem.W.keepIn K (.ref f3) = true)
    (a4 : PySem.W.nsIn K mainGlobals "is_name" = some (some (.ref f4))) (l4 : K.lookup f4 = some ⟨oc4, od4, .func (PySem.W.fnOf "is_name" "is_name" (defArgs sis_name) (defBody sis_name) (defScope sis_name) .none kV4 dc4 pm4 an4 cd4 ct4), sl4⟩) (c4 : PySem.W.codeIn K cd4 "is_name" = true) (k4 : PySem.W.keepIn K (.ref f4) = true)
    (a5 : PySem.W.nsIn K mainGlobals "is_of" = some (some (.ref f5))) (l5 : K.lookup f5 = some ⟨oc5, od5, .func (PySem.W.fnOf "is_of" "is_of" (defArgs sis_of) (defBody sis_of) (defScope sis_of) .none kV5 dc5 pm5 an5 cd5 ct5), sl5⟩) (c5 : PySem.W.codeIn K cd5 "is_of" = true) (k5 : PySem.W.keepIn K (.ref f5) = true)
    (a6 : PySem.W.nsIn K mainGlobals "are_unlike" = some (some (.ref f6))) (l6 : K.lookup f6 = some ⟨oc6, od6, .func (PySem.W.fnOf "are_unlike" "are_unlike" (defArgs sare_unlike) (defBody sare_unlike) (defScope sare_unlike) .none kV6 dc6 pm6 an6 cd6 ct6), sl6⟩) (c6 : PySem.W.codeIn K cd6 "are_unlike" = true) (k6 : PySem.W.keepIn K (.ref f6) = true)
    (a7 : PySem.W.nsIn K mainGlobals "is_worth" = some (some (.ref f7))) (l7 : K.lookup f7 = some ⟨oc7, od7, .func (PySem.W.fnOf "is_worth" "is_worth" (defArgs sis_worth) (defBody sis_worth) (defScope sis_worth) .none kV7 dc7 pm7 an7 cd7 ct7), sl7⟩) (c7 : PySem.W.codeIn K cd7 "is_worth" = true) (k7 : PySem.W.keepIn K (.ref f7) = true)
    (a8 : PySem.W.nsIn K mainGlobals "is_test" = some (some (.ref f8))) (l8 : K.lookup f8 = some ⟨oc8, od8, .func (PySem.W.fnOf "is_test" "is_test" (defArgs sis_test) (defBody sis_test) (defScope sis_test) .none kV8 dc8 pm8 an8 cd8 ct8), sl8⟩) (c8 : PySem.W.codeIn K cd8 "is_test" = true) (k8 : PySem.W.keepIn K (.ref f8) = true)
    (a9 : PySem.W.nsIn K mainGlobals "is_set_row" = some (some (.ref f9))) (l9 : K.lookup f9 = some ⟨oc9, od9, .func (PySem.W.fnOf "is_set_row" "is_set_row" (defArgs sis_set_row) (defBody sis_set_row) (defScope sis_set_row) .none kV9 dc9 pm9 an9 cd9 ct9), sl9⟩) (c9 : PySem.W.codeIn K cd9 "is_set_row" = true) (k9 : PySem.W.keepIn K (.ref f9) = true)
    (a10 : PySem.W.nsIn K mainGlobals "is_cell" = some (some (.ref f10))) (l10 : K.lookup f10 = some ⟨oc10, od10, .func (PySem.W.fnOf "is_cell" "is_cell" (defArgs sis_cell) (defBody sis_cell) (defScope sis_cell) .none kV10 dc10 pm10 an10 cd10 ct10), sl10⟩) (c10 : PySem.W.codeIn K cd10 "is_cell" = true) (k10 : PySem.W.keepIn K (.ref f10) = true)
    (a11 : PySem.W.nsIn K mainGlobals "is_command" = some (some (.ref f11))) (l11 : K.lookup f11 = some ⟨oc11, od11, .func (PySem.W.fnOf "is_command" "is_command" (defArgs sis_command) (defBody sis_command) (defScope sis_command) .none kV11 dc11 pm11 an11 cd11 ct11), sl11⟩) (c11 : PySem.W.codeIn K cd11 "is_command" = true) (k11 : PySem.W.keepIn K (.ref f11) = true)
    (a12 : PySem.W.nsIn K mainGlobals "is_ask" = some (some (.ref f12))) (l12 : K.lookup f12 = some ⟨oc12, od12, .func (PySem.W.fnOf "is_ask" "is_ask" (defArgs sis_ask) (defBody sis_ask) (defScope sis_ask) .none kV12 dc12 pm12 an12 cd12 ct12), sl12⟩) (c12 : PySem.W.codeIn K cd12 "is_ask" = true) (k12 : PySem.W.keepIn K (.ref f12) = true)
    (a13 : PySem.W.nsIn K mainGlobals "is_mark" = some (some (.ref f13))) (l13 : K.lookup f13 = some ⟨oc13, od13, .func (PySem.W.fnOf "is_mark" "is_mark" (defArgs sis_mark) (defBody sis_mark) (defScope sis_mark) .none kV13 dc13 pm13 an13 cd13 ct13), sl13⟩) (c13 : PySem.W.codeIn K cd13 "is_mark" = true) (k13 : PySem.W.keepIn K (.ref f13) = true)
    (a14 : PySem.W.nsIn K mainGlobals "is_program" = some (some (.ref f14))) (l14 : K.lookup f14 = some ⟨oc14, od14, .func (PySem.W.fnOf "is_program" "is_program" (defArgs sis_program) (defBody sis_program) (defScope sis_program) .none kV14 dc14 pm14 an14 cd14 ct14), sl14⟩) (c14 : PySem.W.codeIn K cd14 "is_program" = true) (k14 : PySem.W.keepIn K (.ref f14) = true)
    (a15 : PySem.W.nsIn K mainGlobals "check" = some (some (.ref f15))) (l15 : K.lookup f15 = some ⟨oc15, od15, .func (PySem.W.fnOf "check" "check" (defArgs scheck) (defBody scheck) (defScope scheck) .none kV15 dc15 pm15 an15 cd15 ct15), sl15⟩) (c15 : PySem.W.codeIn K cd15 "check" = true) (k15 : PySem.W.keepIn K (.ref f15) = true)
    (a16 : PySem.W.nsIn K mainGlobals "_law_pool" = some (some (.ref f16))) (l16 : K.lookup f16 = some ⟨oc16, od16, .func (PySem.W.fnOf "_law_pool" "_law_pool" (defArgs s_law_pool) (defBody s_law_pool) (defScope s_law_pool) .none kV16 dc16 pm16 an16 cd16 ct16), sl16⟩) (c16 : PySem.W.codeIn K cd16 "_law_pool" = true) (k16 : PySem.W.keepIn K (.ref f16) = true)
    (a17 : PySem.W.nsIn K mainGlobals "_law_draw" = some (some (.ref f17))) (l17 : K.lookup f17 = some ⟨oc17, od17, .func (PySem.W.fnOf "_law_draw" "_law_draw" (defArgs s_law_draw) (defBody s_law_draw) (defScope s_law_draw) .none kV17 dc17 pm17 an17 cd17 ct17), sl17⟩) (c17 : PySem.W.codeIn K cd17 "_law_draw" = true) (k17 : PySem.W.keepIn K (.ref f17) = true)
    (a18 : PySem.W.nsIn K mainGlobals "_law_name" = some (some (.ref f18))) (l18 : K.lookup f18 = some ⟨oc18, od18, .func (PySem.W.fnOf "_law_name" "_law_name" (defArgs s_law_name) (defBody s_law_name) (defScope s_law_name) .none kV18 dc18 pm18 an18 cd18 ct18), sl18⟩) (c18 : PySem.W.codeIn K cd18 "_law_name" = true) (k18 : PySem.W.keepIn K (.ref f18) = true)
    (a19 : PySem.W.nsIn K mainGlobals "_law_names" = some (some (.ref f19))) (l19 : K.lookup f19 = some ⟨oc19, od19, .func (PySem.W.fnOf "_law_names" "_law_names" (defArgs s_law_names) (defBody s_law_names) (defScope s_law_names) .none kV19 dc19 pm19 an19 cd19 ct19), sl19⟩) (c19 : PySem.W.codeIn K cd19 "_law_names" = true) (k19 : PySem.W.keepIn K (.ref f19) = true)
    (a20 : PySem.W.nsIn K mainGlobals "_law_odd" = some (some (.ref f20))) (l20 : K.lookup f20 = some ⟨oc20, od20, .func (PySem.W.fnOf "_law_odd" "_law_odd" (defArgs s_law_odd) (defBody s_law_odd) (defScope s_law_odd) .none kV20 dc20 pm20 an20 cd20 ct20), sl20⟩) (c20 : PySem.W.codeIn K cd20 "_law_odd" = true) (k20 : PySem.W.keepIn K (.ref f20) = true)
    (a21 : PySem.W.nsIn K mainGlobals "_law_bent" = some (some (.ref f21))) (l21 : K.lookup f21 = some ⟨oc21, od21, .func (PySem.W.fnOf "_law_bent" "_law_bent" (defArgs s_law_bent) (defBody s_law_bent) (defScope s_law_bent) .none kV21 dc21 pm21 an21 cd21 ct21), sl21⟩) (c21 : PySem.W.codeIn K cd21 "_law_bent" = true) (k21 : PySem.W.keepIn K (.ref f21) = true)
    (a22 : PySem.W.nsIn K mainGlobals "_law_number" = some (some (.ref f22))) (l22 : K.lookup f22 = some ⟨oc22, od22, .func (PySem.W.fnOf "_law_number" "_law_number" (defArgs s_law_number) (defBody s_law_number) (defScope s_law_number) .none kV22 dc22 pm22 an22 cd22 ct22), sl22⟩) (c22 : PySem.W.codeIn K cd22 "_law_number" = true) (k22 : PySem.W.keepIn K (.ref f22) = true)
    (a23 : PySem.W.nsIn K mainGlobals "_law_tuple" = some (some (.ref f23))) (l23 : K.lookup f23 = some ⟨oc23, od23, .func (PySem.W.fnOf "_law_tuple" "_law_tuple" (defArgs s_law_tuple) (defBody s_law_tuple) (defScope s_law_tuple) .none kV23 dc23 pm23 an23 cd23 ct23), sl23⟩) (c23 : PySem.W.codeIn K cd23 "_law_tuple" = true) (k23 : PySem.W.keepIn K (.ref f23) = true)
    (a24 : PySem.W.nsIn K mainGlobals "_law_good_name" = some (some (.ref f24))) (l24 : K.lookup f24 = some ⟨oc24, od24, .func (PySem.W.fnOf "_law_good_name" "_law_good_name" (defArgs s_law_good_name) (defBody s_law_good_name) (defScope s_law_good_name) .none kV24 dc24 pm24 an24 cd24 ct24), sl24⟩) (c24 : PySem.W.codeIn K cd24 "_law_good_name" = true) (k24 : PySem.W.keepIn K (.ref f24) = true)
    (a25 : PySem.W.nsIn K mainGlobals "_law_worth" = some (some (.ref f25))) (l25 : K.lookup f25 = some ⟨oc25, od25, .func (PySem.W.fnOf "_law_worth" "_law_worth" (defArgs s_law_worth) (defBody s_law_worth) (defScope s_law_worth) .none kV25 dc25 pm25 an25 cd25 ct25), sl25⟩) (c25 : PySem.W.codeIn K cd25 "_law_worth" = true) (k25 : PySem.W.keepIn K (.ref f25) = true)
    (a26 : PySem.W.nsIn K mainGlobals "_law_test" = some (some (.ref f26))) (l26 : K.lookup f26 = some ⟨oc26, od26, .func (PySem.W.fnOf "_law_test" "_law_test" (defArgs s_law_test) (defBody s_law_test) (defScope s_law_test) .none kV26 dc26 pm26 an26 cd26 ct26), sl26⟩) (c26 : PySem.W.codeIn K cd26 "_law_test" = true) (k26 : PySem.W.keepIn K (.ref f26) = true)
    (a27 : PySem.W.nsIn K mainGlobals "_law_cells" = some (some (.ref f27))) (l27 : K.lookup f27 = some ⟨oc27, od27, .func (PySem.W.fnOf "_law_cells" "_law_cells" (defArgs s_law_cells) (defBody s_law_cells) (defScope s_law_cells) .none kV27 dc27 pm27 an27 cd27 ct27), sl27⟩) (c27 : PySem.W.codeIn K cd27 "_law_cells" = true) (k27 : PySem.W.keepIn K (.ref f27) = true)
    (a28 : PySem.W.nsIn K mainGlobals "_law_command" = some (some (.ref f28))) (l28 : K.lookup f28 = some ⟨oc28, od28, .func (PySem.W.fnOf "_law_command" "_law_command" (defArgs s_law_command) (defBody s_law_command) (defScope s_law_command) .none kV28 dc28 pm28 an28 cd28 ct28), sl28⟩) (c28 : PySem.W.codeIn K cd28 "_law_command" = true) (k28 : PySem.W.keepIn K (.ref f28) = true)
    (a29 : PySem.W.nsIn K mainGlobals "_law_ask" = some (some (.ref f29))) (l29 : K.lookup f29 = some ⟨oc29, od29, .func (PySem.W.fnOf "_law_ask" "_law_ask" (defArgs s_law_ask) (defBody s_law_ask) (defScope s_law_ask) .none kV29 dc29 pm29 an29 cd29 ct29), sl29⟩) (c29 : PySem.W.codeIn K cd29 "_law_ask" = true) (k29 : PySem.W.keepIn K (.ref f29) = true)
    (a30 : PySem.W.nsIn K mainGlobals "_law_marks" = some (some (.ref f30))) (l30 : K.lookup f30 = some ⟨oc30, od30, .func (PySem.W.fnOf "_law_marks" "_law_marks" (defArgs s_law_marks) (defBody s_law_marks) (defScope s_law_marks) .none kV30 dc30 pm30 an30 cd30 ct30), sl30⟩) (c30 : PySem.W.codeIn K cd30 "_law_marks" = true) (k30 : PySem.W.keepIn K (.ref f30) = true)
    (a31 : PySem.W.nsIn K mainGlobals "_law_program" = some (some (.ref f31))) (l31 : K.lookup f31 = some ⟨oc31, od31, .func (PySem.W.fnOf "_law_program" "_law_program" (defArgs s_law_program) (defBody s_law_program) (defScope s_law_program) .none kV31 dc31 pm31 an31 cd31 ct31), sl31⟩) (c31 : PySem.W.codeIn K cd31 "_law_program" = true) (k31 : PySem.W.keepIn K (.ref f31) = true)
    (a32 : PySem.W.nsIn K mainGlobals "_law_unlike" = some (some (.ref f32))) (l32 : K.lookup f32 = some ⟨oc32, od32, .func (PySem.W.fnOf "_law_unlike" "_law_unlike" (defArgs s_law_unlike) (defBody s_law_unlike) (defScope s_law_unlike) .none kV32 dc32 pm32 an32 cd32 ct32), sl32⟩) (c32 : PySem.W.codeIn K cd32 "_law_unlike" = true) (k32 : PySem.W.keepIn K (.ref f32) = true)
    (a33 : PySem.W.nsIn K mainGlobals "_law_is_of" = some (some (.ref f33))) (l33 : K.lookup f33 = some ⟨oc33, od33, .func (PySem.W.fnOf "_law_is_of" "_law_is_of" (defArgs s_law_is_of) (defBody s_law_is_of) (defScope s_law_is_of) .none kV33 dc33 pm33 an33 cd33 ct33), sl33⟩) (c33 : PySem.W.codeIn K cd33 "_law_is_of" = true) (k33 : PySem.W.keepIn K (.ref f33) = true)
    (a34 : PySem.W.nsIn K mainGlobals "_law_is_worth" = some (some (.ref f34))) (l34 : K.lookup f34 = some ⟨oc34, od34, .func (PySem.W.fnOf "_law_is_worth" "_law_is_worth" (defArgs s_law_is_worth) (defBody s_law_is_worth) (defScope s_law_is_worth) .none kV34 dc34 pm34 an34 cd34 ct34), sl34⟩) (c34 : PySem.W.codeIn K cd34 "_law_is_worth" = true) (k34 : PySem.W.keepIn K (.ref f34) = true)
    (a35 : PySem.W.nsIn K mainGlobals "_law_is_test" = some (some (.ref f35))) (l35 : K.lookup f35 = some ⟨oc35, od35, .func (PySem.W.fnOf "_law_is_test" "_law_is_test" (defArgs s_law_is_test) (defBody s_law_is_test) (defScope s_law_is_test) .none kV35 dc35 pm35 an35 cd35 ct35), sl35⟩) (c35 : PySem.W.codeIn K cd35 "_law_is_test" = true) (k35 : PySem.W.keepIn K (.ref f35) = true)
    (a36 : PySem.W.nsIn K mainGlobals "_law_are_cells" = some (some (.ref f36))) (l36 : K.lookup f36 = some ⟨oc36, od36, .func (PySem.W.fnOf "_law_are_cells" "_law_are_cells" (defArgs s_law_are_cells) (defBody s_law_are_cells) (defScope s_law_are_cells) .none kV36 dc36 pm36 an36 cd36 ct36), sl36⟩) (c36 : PySem.W.codeIn K cd36 "_law_are_cells" = true) (k36 : PySem.W.keepIn K (.ref f36) = true)
    (a37 : PySem.W.nsIn K mainGlobals "_law_are_commands" = some (some (.ref f37))) (l37 : K.lookup f37 = some ⟨oc37, od37, .func (PySem.W.fnOf "_law_are_commands" "_law_are_commands" (defArgs s_law_are_commands) (defBody s_law_are_commands) (defScope s_law_are_commands) .none kV37 dc37 pm37 an37 cd37 ct37), sl37⟩) (c37 : PySem.W.codeIn K cd37 "_law_are_commands" = true) (k37 : PySem.W.keepIn K (.ref f37) = true)
    (a38 : PySem.W.nsIn K mainGlobals "_law_is_ask" = some (some (.ref f38))) (l38 : K.lookup f38 = some ⟨oc38, od38, .func (PySem.W.fnOf "_law_is_ask" "_law_is_ask" (defArgs s_law_is_ask) (defBody s_law_is_ask) (defScope s_law_is_ask) .none kV38 dc38 pm38 an38 cd38 ct38), sl38⟩) (c38 : PySem.W.codeIn K cd38 "_law_is_ask" = true) (k38 : PySem.W.keepIn K (.ref f38) = true)
    (a39 : PySem.W.nsIn K mainGlobals "_law_are_marks" = some (some (.ref f39))) (l39 : K.lookup f39 = some ⟨oc39, od39, .func (PySem.W.fnOf "_law_are_marks" "_law_are_marks" (defArgs s_law_are_marks) (defBody s_law_are_marks) (defScope s_law_are_marks) .none kV39 dc39 pm39 an39 cd39 ct39), sl39⟩) (c39 : PySem.W.codeIn K cd39 "_law_are_marks" = true) (k39 : PySem.W.keepIn K (.ref f39) = true)
    (a40 : PySem.W.nsIn K mainGlobals "_law_is_program" = some (some (.ref f40))) (l40 : K.lookup f40 = some ⟨oc40, od40, .func (PySem.W.fnOf "_law_is_program" "_law_is_program" (defArgs s_law_is_program) (defBody s_law_is_program) (defScope s_law_is_program) .none kV40 dc40 pm40 an40 cd40 ct40), sl40⟩) (c40 : PySem.W.codeIn K cd40 "_law_is_program" = true) (k40 : PySem.W.keepIn K (.ref f40) = true)
    (a41 : PySem.W.nsIn K mainGlobals "_law_overfull" = some (some (.ref f41))) (l41 : K.lookup f41 = some ⟨oc41, od41, .func (PySem.W.fnOf "_law_overfull" "_law_overfull" (defArgs s_law_overfull) (defBody s_law_overfull) (defScope s_law_overfull) .none kV41 dc41 pm41 an41 cd41 ct41), sl41⟩) (c41 : PySem.W.codeIn K cd41 "_law_overfull" = true) (k41 : PySem.W.keepIn K (.ref f41) = true)
    (a42 : PySem.W.nsIn K mainGlobals "_law_checked" = some (some (.ref f42))) (l42 : K.lookup f42 = some ⟨oc42, od42, .func (PySem.W.fnOf "_law_checked" "_law_checked" (defArgs s_law_checked) (defBody s_law_checked) (defScope s_law_checked) .none kV42 dc42 pm42 an42 cd42 ct42), sl42⟩) (c42 : PySem.W.codeIn K cd42 "_law_checked" = true) (k42 : PySem.W.keepIn K (.ref f42) = true)
    (a43 : PySem.W.nsIn K mainGlobals "_law_kinds" = some (some (.ref f43))) (l43 : K.lookup f43 = some ⟨oc43, od43, .func (PySem.W.fnOf "_law_kinds" "_law_kinds" (defArgs s_law_kinds) (defBody s_law_kinds) (defScope s_law_kinds) .none kV43 dc43 pm43 an43 cd43 ct43), sl43⟩) (c43 : PySem.W.codeIn K cd43 "_law_kinds" = true) (k43 : PySem.W.keepIn K (.ref f43) = true)
    (a44 : PySem.W.nsIn K mainGlobals "_law_by_base" = some (some (.ref f44))) (l44 : K.lookup f44 = some ⟨oc44, od44, .func (PySem.W.fnOf "_law_by_base" "_law_by_base" (defArgs s_law_by_base) (defBody s_law_by_base) (defScope s_law_by_base) .none kV44 dc44 pm44 an44 cd44 ct44), sl44⟩) (c44 : PySem.W.codeIn K cd44 "_law_by_base" = true) (k44 : PySem.W.keepIn K (.ref f44) = true)
    (a45 : PySem.W.nsIn K mainGlobals "law" = some (some (.ref f45))) (l45 : K.lookup f45 = some ⟨oc45, od45, .func (PySem.W.fnOf "law" "law" (defArgs slaw) (defBody slaw) (defScope slaw) .none kV45 dc45 pm45 an45 cd45 ct45), sl45⟩) (c45 : PySem.W.codeIn K cd45 "law" = true) (k45 : PySem.W.keepIn K (.ref f45) = true)
    (z_ValueError : PySem.W.nsIn K mainGlobals "ValueError" = some none)
    (z_range : PySem.W.nsIn K mainGlobals "range" = some none)
    (z_tuple : PySem.W.nsIn K mainGlobals "tuple" = some none)
    (z_isinstance : PySem.W.nsIn K mainGlobals "isinstance" = some none)
    (z_int : PySem.W.nsIn K mainGlobals "int" = some none)
    (z_len : PySem.W.nsIn K mainGlobals "len" = some none)
    (z_str : PySem.W.nsIn K mainGlobals "str" = some none)
    (z_all : PySem.W.nsIn K mainGlobals "all" = some none)
    (z_bool : PySem.W.nsIn K mainGlobals "bool" = some none)
    (z_list : PySem.W.nsIn K mainGlobals "list" = some none)
    (z_min : PySem.W.nsIn K mainGlobals "min" = some none)
    {aWORDS : Addr} {odWORDS : Option Addr} {itsWORDS : Array Value} {nWORDS : Nat} {slWORDS : Array (Option Value)} (gWORDS : PySem.W.nsIn K mainGlobals "WORDS" = some (some (.ref aWORDS))) (lWORDS : K.lookup aWORDS = some ⟨.type "tuple", odWORDS, .seq itsWORDS nWORDS, slWORDS⟩) (sWORDS : itsWORDS.size ≤ sizeLine) (vWORDS : Vals (wordsL.map V.str) itsWORDS.toList)
    {aTESTS : Addr} {odTESTS : Option Addr} {itsTESTS : Array Value} {nTESTS : Nat} {slTESTS : Array (Option Value)} (gTESTS : PySem.W.nsIn K mainGlobals "TESTS" = some (some (.ref aTESTS))) (lTESTS : K.lookup aTESTS = some ⟨.type "tuple", odTESTS, .seq itsTESTS nTESTS, slTESTS⟩) (sTESTS : itsTESTS.size ≤ sizeLine) (vTESTS : Vals (testsL.map V.str) itsTESTS.toList)
    {aASKS : Addr} {odASKS : Option Addr} {itsASKS : Array Value} {nASKS : Nat} {slASKS : Array (Option Value)} (gASKS : PySem.W.nsIn K mainGlobals "ASKS" = some (some (.ref aASKS))) (lASKS : K.lookup aASKS = some ⟨.type "tuple", odASKS, .seq itsASKS nASKS, slASKS⟩) (sASKS : itsASKS.size ≤ sizeLine) (vASKS : Vals (asksL.map V.str) itsASKS.toList)
    {uLETTERS : Value} (gLETTERS : PySem.W.nsIn K mainGlobals "LETTERS" = some (some uLETTERS)) (rLETTERS : RelV (.str lettersS) uLETTERS)
    {xcNoProgram : Addr} (gXNoProgram : PySem.W.nsIn K mainGlobals "NoProgram" = some (some (.ref xcNoProgram))) (kXNoProgram : PySem.W.keepIn K (.ref xcNoProgram) = true) (bXNoProgram : PySem.W.subIn K (.ref xcNoProgram) (.type "BaseException") = some true) (tXNoProgram : PySem.W.typeIn K (.ref xcNoProgram) = some (.type "type")) (hXNoProgram : PySem.W.hasDictIn K xcNoProgram = true)
    (eX : PySem.W.excIn K xcNoProgram [.type "ValueError", .type "Exception", .type "BaseException", .type "object"] "ValueError.__new__" = true)
    (e1 : PySem.W.findIn K (.ref xcNoProgram) "__getattribute__" = some (some (.builtin "BaseException.__getattribute__")))
    (e2 : PySem.W.findIn K (.ref xcNoProgram) "__getattr__" = some none)
    (e3 : PySem.W.findIn K (.ref xcNoProgram) "__class__" = some (some (.builtin "object.__class__")))
    (e4 : PySem.W.specialIn K (.builtin "object.__class__") "__get__" = some (some (.builtin "getset_descriptor.__get__")))
    (e5 : PySem.W.takesIn K (.builtin "object.__class__") = some true)
    (e6 : PySem.W.mroIn K xcNoProgram (.type "object") = some true)
    (e7 : PySem.W.subIn K (.ref xcNoProgram) (.ref xcNoProgram) = some true)
    (e8 : PySem.W.subIn K (.ref xcNoProgram) (.type "ValueError") = some true)
    {xcTreeError : Addr} (gXTreeError : PySem.W.nsIn K mainGlobals "TreeError" = some (some (.ref xcTreeError))) (kXTreeError : PySem.W.keepIn K (.ref xcTreeError) = true) (bXTreeError : PySem.W.subIn K (.ref xcTreeError) (.type "BaseException") = some true) (tXTreeError : PySem.W.typeIn K (.ref xcTreeError) = some (.type "type")) (hXTreeError : PySem.W.hasDictIn K xcTreeError = true)
    (sXTreeError : PySem.W.subIn K (.ref xcNoProgram) (.ref xcTreeError) = some true)
    {xcNoMachine : Addr} (gXNoMachine : PySem.W.nsIn K mainGlobals "NoMachine" = some (some (.ref xcNoMachine))) (kXNoMachine : PySem.W.keepIn K (.ref xcNoMachine) = true) (bXNoMachine : PySem.W.subIn K (.ref xcNoMachine) (.type "BaseException") = some true) (tXNoMachine : PySem.W.typeIn K (.ref xcNoMachine) = some (.type "type")) (hXNoMachine : PySem.W.hasDictIn K xcNoMachine = true)
    (sXNoMachine : PySem.W.subIn K (.ref xcNoProgram) (.ref xcNoMachine) = some false)
    {xcNoWishes : Addr} (gXNoWishes : PySem.W.nsIn K mainGlobals "NoWishes" = some (some (.ref xcNoWishes))) (kXNoWishes : PySem.W.keepIn K (.ref xcNoWishes) = true) (bXNoWishes : PySem.W.subIn K (.ref xcNoWishes) (.type "BaseException") = some true) (tXNoWishes : PySem.W.typeIn K (.ref xcNoWishes) = some (.type "type")) (hXNoWishes : PySem.W.hasDictIn K xcNoWishes = true)
    (sXNoWishes : PySem.W.subIn K (.ref xcNoProgram) (.ref xcNoWishes) = some false)
    (sXNoProgram : PySem.W.subIn K (.ref xcNoProgram) (.ref xcNoProgram) = some true)
    {xcNoSaying : Addr} (gXNoSaying : PySem.W.nsIn K mainGlobals "NoSaying" = some (some (.ref xcNoSaying))) (kXNoSaying : PySem.W.keepIn K (.ref xcNoSaying) = true) (bXNoSaying : PySem.W.subIn K (.ref xcNoSaying) (.type "BaseException") = some true) (tXNoSaying : PySem.W.typeIn K (.ref xcNoSaying) = some (.type "type")) (hXNoSaying : PySem.W.hasDictIn K xcNoSaying = true)
    (sXNoSaying : PySem.W.subIn K (.ref xcNoProgram) (.ref xcNoSaying) = some false)
    {xcNoText : Addr} (gXNoText : PySem.W.nsIn K mainGlobals "NoText" = some (some (.ref xcNoText))) (kXNoText : PySem.W.keepIn K (.ref xcNoText) = true) (bXNoText : PySem.W.subIn K (.ref xcNoText) (.type "BaseException") = some true) (tXNoText : PySem.W.typeIn K (.ref xcNoText) = some (.type "type")) (hXNoText : PySem.W.hasDictIn K xcNoText = true)
    (sXNoText : PySem.W.subIn K (.ref xcNoProgram) (.ref xcNoText) = some false)
    {xcNoRun : Addr} (gXNoRun : PySem.W.nsIn K mainGlobals "NoRun" = some (some (.ref xcNoRun))) (kXNoRun : PySem.W.keepIn K (.ref xcNoRun) = true) (bXNoRun : PySem.W.subIn K (.ref xcNoRun) (.type "BaseException") = some true) (tXNoRun : PySem.W.typeIn K (.ref xcNoRun) = some (.type "type")) (hXNoRun : PySem.W.hasDictIn K xcNoRun = true)
    (sXNoRun : PySem.W.subIn K (.ref xcNoProgram) (.ref xcNoRun) = some false)
    {xcNoWay : Addr} (gXNoWay : PySem.W.nsIn K mainGlobals "NoWay" = some (some (.ref xcNoWay))) (kXNoWay : PySem.W.keepIn K (.ref xcNoWay) = true) (bXNoWay : PySem.W.subIn K (.ref xcNoWay) (.type "BaseException") = some true) (tXNoWay : PySem.W.typeIn K (.ref xcNoWay) = some (.type "type")) (hXNoWay : PySem.W.hasDictIn K xcNoWay = true)
    (sXNoWay : PySem.W.subIn K (.ref xcNoProgram) (.ref xcNoWay) = some false)
    {xcNoSheet : Addr} (gXNoSheet : PySem.W.nsIn K mainGlobals "NoSheet" = some (some (.ref xcNoSheet))) (kXNoSheet : PySem.W.keepIn K (.ref xcNoSheet) = true) (bXNoSheet : PySem.W.subIn K (.ref xcNoSheet) (.type "BaseException") = some true) (tXNoSheet : PySem.W.typeIn K (.ref xcNoSheet) = some (.type "type")) (hXNoSheet : PySem.W.hasDictIn K xcNoSheet = true)
    (sXNoSheet : PySem.W.subIn K (.ref xcNoProgram) (.ref xcNoSheet) = some false)
    {xcNoPaper : Addr} (gXNoPaper : PySem.W.nsIn K mainGlobals "NoPaper" = some (some (.ref xcNoPaper))) (kXNoPaper : PySem.W.keepIn K (.ref xcNoPaper) = true) (bXNoPaper : PySem.W.subIn K (.ref xcNoPaper) (.type "BaseException") = some true) (tXNoPaper : PySem.W.typeIn K (.ref xcNoPaper) = some (.type "type")) (hXNoPaper : PySem.W.hasDictIn K xcNoPaper = true)
    (sXNoPaper : PySem.W.subIn K (.ref xcNoProgram) (.ref xcNoPaper) = some false)
    {xcNoDeed : Addr} (gXNoDeed : PySem.W.nsIn K mainGlobals "NoDeed" = some (some (.ref xcNoDeed))) (kXNoDeed : PySem.W.keepIn K (.ref xcNoDeed) = true) (bXNoDeed : PySem.W.subIn K (.ref xcNoDeed) (.type "BaseException") = some true) (tXNoDeed : PySem.W.typeIn K (.ref xcNoDeed) = some (.type "type")) (hXNoDeed : PySem.W.hasDictIn K xcNoDeed = true)
    (sXNoDeed : PySem.W.subIn K (.ref xcNoProgram) (.ref xcNoDeed) = some false)
    {xcTwice : Addr} (gXTwice : PySem.W.nsIn K mainGlobals "Twice" = some (some (.ref xcTwice))) (kXTwice : PySem.W.keepIn K (.ref xcTwice) = true) (bXTwice : PySem.W.subIn K (.ref xcTwice) (.type "BaseException") = some true) (tXTwice : PySem.W.typeIn K (.ref xcTwice) = some (.type "type")) (hXTwice : PySem.W.hasDictIn K xcTwice = true)
    (sXTwice : PySem.W.subIn K (.ref xcNoProgram) (.ref xcTwice) = some false)
    {xcMissing : Addr} (gXMissing : PySem.W.nsIn K mainGlobals "Missing" = some (some (.ref xcMissing))) (kXMissing : PySem.W.keepIn K (.ref xcMissing) = true) (bXMissing : PySem.W.subIn K (.ref xcMissing) (.type "BaseException") = some true) (tXMissing : PySem.W.typeIn K (.ref xcMissing) = some (.type "type")) (hXMissing : PySem.W.hasDictIn K xcMissing = true)
    (sXMissing : PySem.W.subIn K (.ref xcNoProgram) (.ref xcMissing) = some false)
    {xcNothing : Addr} (gXNothing : PySem.W.nsIn K mainGlobals "Nothing" = some (some (.ref xcNothing))) (kXNothing : PySem.W.keepIn K (.ref xcNothing) = true) (bXNothing : PySem.W.subIn K (.ref xcNothing) (.type "BaseException") = some true) (tXNothing : PySem.W.typeIn K (.ref xcNothing) = some (.type "type")) (hXNothing : PySem.W.hasDictIn K xcNothing = true)
    (sXNothing : PySem.W.subIn K (.ref xcNoProgram) (.ref xcNothing) = some false)
    {xcFull : Addr} (gXFull : PySem.W.nsIn K mainGlobals "Full" = some (some (.ref xcFull))) (kXFull : PySem.W.keepIn K (.ref xcFull) = true) (bXFull : PySem.W.subIn K (.ref xcFull) (.type "BaseException") = some true) (tXFull : PySem.W.typeIn K (.ref xcFull) = some (.type "type")) (hXFull : PySem.W.hasDictIn K xcFull = true)
    (sXFull : PySem.W.subIn K (.ref xcNoProgram) (.ref xcFull) = some false)
    {xcBroken : Addr} (gXBroken : PySem.W.nsIn K mainGlobals "Broken" = some (some (.ref xcBroken))) (kXBroken : PySem.W.keepIn K (.ref xcBroken) = true) (bXBroken : PySem.W.subIn K (.ref xcBroken) (.type "BaseException") = some true) (tXBroken : PySem.W.typeIn K (.ref xcBroken) = some (.type "type")) (hXBroken : PySem.W.hasDictIn K xcBroken = true)
    (sXBroken : PySem.W.subIn K (.ref xcNoProgram) (.ref xcBroken) = some false)
    {xcTooGreat : Addr} (gXTooGreat : PySem.W.nsIn K mainGlobals "TooGreat" = some (some (.ref xcTooGreat))) (kXTooGreat : PySem.W.keepIn K (.ref xcTooGreat) = true) (bXTooGreat : PySem.W.subIn K (.ref xcTooGreat) (.type "BaseException") = some true) (tXTooGreat : PySem.W.typeIn K (.ref xcTooGreat) = some (.type "type")) (hXTooGreat : PySem.W.hasDictIn K xcTooGreat = true)
    (sXTooGreat : PySem.W.subIn K (.ref xcNoProgram) (.ref xcTooGreat) = some false)
    {xcTooMany : Addr} (gXTooMany : PySem.W.nsIn K mainGlobals "TooMany" = some (some (.ref xcTooMany))) (kXTooMany : PySem.W.keepIn K (.ref xcTooMany) = true) (bXTooMany : PySem.W.subIn K (.ref xcTooMany) (.type "BaseException") = some true) (tXTooMany : PySem.W.typeIn K (.ref xcTooMany) = some (.type "type")) (hXTooMany : PySem.W.hasDictIn K xcTooMany = true)
    (sXTooMany : PySem.W.subIn K (.ref xcNoProgram) (.ref xcTooMany) = some false)
    {xcAreAlike : Addr} (gXAreAlike : PySem.W.nsIn K mainGlobals "AreAlike" = some (some (.ref xcAreAlike))) (kXAreAlike : PySem.W.keepIn K (.ref xcAreAlike) = true) (bXAreAlike : PySem.W.subIn K (.ref xcAreAlike) (.type "BaseException") = some true) (tXAreAlike : PySem.W.typeIn K (.ref xcAreAlike) = some (.type "type")) (hXAreAlike : PySem.W.hasDictIn K xcAreAlike = true)
    (sXAreAlike : PySem.W.subIn K (.ref xcNoProgram) (.ref xcAreAlike) = some false)
    : ∃ fd : FuncData, (∀ (s : Shared) (v : Value), BindsTo s fd ⟨[v], []⟩ [("_law_script", v)]) ∧ ∀ base : Heap, K.In base → base.Ns mainGlobals mg → FnOk l.prog w K mg base CX0 11 fa fd ["_law_script"] (spLaw K) := by
  have e := hfa.symm.trans (PySem.W.mg_of X G a45)
  cases e
  have F1 := fun_mk (st := sis_whole) l1 c1 k1
  have F2 := fun_mk (st := sis_number) l2 c2 k2
  have F3 := fun_mk (st := sis_row) l3 c3 k3
  have F4 := fun_mk (st := sis_name) l4 c4 k4
  have F5 := fun_mk (st := sis_of) l5 c5 k5
  have F6 := fun_mk (st := sare_unlike) l6 c6 k6
  have F7 := fun_mk (st := sis_worth) l7 c7 k7
  have F8 := fun_mk (st := sis_test) l8 c8 k8
  have F9 := fun_mk (st := sis_set_row) l9 c9 k9
  have F10 := fun_mk (st := sis_cell) l10 c10 k10
  have F11 := fun_mk (st := sis_command) l11 c11 k11
  have F12 := fun_mk (st := sis_ask) l12 c12 k12
  have F13 := fun_mk (st := sis_mark) l13 c13 k13
  have F14 := fun_mk (st := sis_program) l14 c14 k14
  have F15 := fun_mk (st := scheck) l15 c15 k15
  have F16 := fun_mk (st := s_law_pool) l16 c16 k16
  have F17 := fun_mk (st := s_law_draw) l17 c17 k17
  have F18 := fun_mk (st := s_law_name) l18 c18 k18
  have F19 := fun_mk (st := s_law_names) l19 c19 k19
  have F20 := fun_mk (st := s_law_odd) l20 c20 k20
  have F21 := fun_mk (st := s_law_bent) l21 c21 k21
  have F22 := fun_mk (st := s_law_number) l22 c22 k22
  have F23 := fun_mk (st := s_law_tuple) l23 c23 k23
  have F24 := fun_mk (st := s_law_good_name) l24 c24 k24
  have F25 := fun_mk (st := s_law_worth) l25 c25 k25
  have F26 := fun_mk (st := s_law_test) l26 c26 k26
  have F27 := fun_mk (st := s_law_cells) l27 c27 k27
  have F28 := fun_mk (st := s_law_command) l28 c28 k28
  have F29 := fun_mk (st := s_law_ask) l29 c29 k29
  have F30 := fun_mk (st := s_law_marks) l30 c30 k30
  have F31 := fun_mk (st := s_law_program) l31 c31 k31
  have F32 := fun_mk (st := s_law_unlike) l32 c32 k32
  have F33 := fun_mk (st := s_law_is_of) l33 c33 k33
  have F34 := fun_mk (st := s_law_is_worth) l34 c34 k34
  have F35 := fun_mk (st := s_law_is_test) l35 c35 k35
  have F36 := fun_mk (st := s_law_are_cells) l36 c36 k36
  have F37 := fun_mk (st := s_law_are_commands) l37 c37 k37
  have F38 := fun_mk (st := s_law_is_ask) l38 c38 k38
  have F39 := fun_mk (st := s_law_are_marks) l39 c39 k39
  have F40 := fun_mk (st := s_law_is_program) l40 c40 k40
  have F41 := fun_mk (st := s_law_overfull) l41 c41 k41
  have F42 := fun_mk (st := s_law_checked) l42 c42 k42
  have F43 := fun_mk (st := s_law_kinds) l43 c43 k43
  have F44 := fun_mk (st := s_law_by_base) l44 c44 k44
  have F45 := fun_mk (st := slaw) l45 c45 k45
  have b1 := F1.binds (ps := ["thing"]) fun _ _ _ _ _ _ us hl => match us, hl with | [_], _ => rfl
  have b2 := F2.binds (ps := ["thing", "low", "high"]) fun _ _ _ _ _ _ us hl => match us, hl with | [_, _, _], _ => rfl
  have b3 := F3.binds (ps := ["thing", "least", "most"]) fun _ _ _ _ _ _ us hl => match us, hl with | [_, _, _], _ => rfl
  have b4 := F4.binds (ps := ["thing"]) fun _ _ _ _ _ _ us hl => match us, hl with | [_], _ => rfl
  have b5 := F5.binds (ps := ["thing", "names"]) fun _ _ _ _ _ _ us hl => match us, hl with | [_, _], _ => rfl
  have b6 := F6.binds (ps := ["names"]) fun _ _ _ _ _ _ us hl => match us, hl with | [_], _ => rfl
  have b7 := F7.binds (ps := ["thing", "cells"]) fun _ _ _ _ _ _ us hl => match us, hl with | [_, _], _ => rfl
  have b8 := F8.binds (ps := ["thing", "cells"]) fun _ _ _ _ _ _ us hl => match us, hl with | [_, _], _ => rfl
  have b9 := F9.binds (ps := ["thing", "cells"]) fun _ _ _ _ _ _ us hl => match us, hl with | [_, _], _ => rfl
  have b10 := F10.binds (ps := ["thing"]) fun _ _ _ _ _ _ us hl => match us, hl with | [_], _ => rfl
  have b11 := F11.binds (ps := ["thing", "cells"]) fun _ _ _ _ _ _ us hl => match us, hl with | [_, _], _ => rfl
  have b12 := F12.binds (ps := ["thing", "cells", "commands", "keeps"]) fun _ _ _ _ _ _ us hl => match us, hl with | [_, _, _, _], _ => rfl
  have b13 := F13.binds (ps := ["thing", "cells", "commands", "keeps"]) fun _ _ _ _ _ _ us hl => match us, hl with | [_, _, _, _], _ => rfl
  have b14 := F14.binds (ps := ["thing"]) fun _ _ _ _ _ _ us hl => match us, hl with | [_], _ => rfl
  have b15 := F15.binds (ps := ["thing"]) fun _ _ _ _ _ _ us hl => match us, hl with | [_], _ => rfl
  have b16 := F16.binds (ps := ["_law_script"]) fun _ _ _ _ _ _ us hl => match us, hl with | [_], _ => rfl
  have b17 := F17.binds (ps := ["_law_pool_here", "_law_many"]) fun _ _ _ _ _ _ us hl => match us, hl with | [_, _], _ => rfl
  have b18 := F18.binds (ps := ["_law_pool_here", "_law_start", "_law_taken"]) fun _ _ _ _ _ _ us hl => match us, hl with | [_, _, _], _ => rfl
  have b19 := F19.binds (ps := ["_law_pool_here", "_law_many"]) fun _ _ _ _ _ _ us hl => match us, hl with | [_, _], _ => rfl
  have b20 := F20.binds (ps := ["_law_pool_here"]) fun _ _ _ _ _ _ us hl => match us, hl with | [_], _ => rfl
  have b21 := F21.binds (ps := ["_law_pool_here", "_law_thing", "_law_deep"]) fun _ _ _ _ _ _ us hl => match us, hl with | [_, _, _], _ => rfl
  have b22 := F22.binds (ps := ["_law_thing", "_law_low", "_law_high"]) fun _ _ _ _ _ _ us hl => match us, hl with | [_, _, _], _ => rfl
  have b23 := F23.binds (ps := ["_law_thing", "_law_least", "_law_most"]) fun _ _ _ _ _ _ us hl => match us, hl with | [_, _, _], _ => rfl
  have b24 := F24.binds (ps := ["_law_thing"]) fun _ _ _ _ _ _ us hl => match us, hl with | [_], _ => rfl
  have b25 := F25.binds (ps := ["_law_pool_here", "_law_names_here"]) fun _ _ _ _ _ _ us hl => match us, hl with | [_, _], _ => rfl
  have b26 := F26.binds (ps := ["_law_pool_here", "_law_names_here"]) fun _ _ _ _ _ _ us hl => match us, hl with | [_, _], _ => rfl
  have b27 := F27.binds (ps := ["_law_pool_here", "_law_names_here", "_law_room"]) fun _ _ _ _ _ _ us hl => match us, hl with | [_, _, _], _ => rfl
  have b28 := F28.binds (ps := ["_law_pool_here", "_law_name_here", "_law_names_here"]) fun _ _ _ _ _ _ us hl => match us, hl with | [_, _, _], _ => rfl
  have b29 := F29.binds (ps := ["_law_pool_here", "_law_cells_here", "_law_commands", "_law_keeps"]) fun _ _ _ _ _ _ us hl => match us, hl with | [_, _, _, _], _ => rfl
  have b30 := F30.binds (ps := ["_law_pool_here", "_law_names_here", "_law_cells_here", "_law_commands", "_law_keeps"]) fun _ _ _ _ _ _ us hl => match us, hl with | [_, _, _, _, _], _ => rfl
  have b31 := F31.binds (ps := ["_law_pool_here", "_law_room", "_law_commands", "_law_marks_here"]) fun _ _ _ _ _ _ us hl => match us, hl with | [_, _, _, _], _ => rfl
  have b32 := F32.binds (ps := ["_law_rows"]) fun _ _ _ _ _ _ us hl => match us, hl with | [_], _ => rfl
  have b33 := F33.binds (ps := ["_law_thing", "_law_names_here"]) fun _ _ _ _ _ _ us hl => match us, hl with | [_, _], _ => rfl
  have b34 := F34.binds (ps := ["_law_thing", "_law_names_here"]) fun _ _ _ _ _ _ us hl => match us, hl with | [_, _], _ => rfl
  have b35 := F35.binds (ps := ["_law_thing", "_law_names_here"]) fun _ _ _ _ _ _ us hl => match us, hl with | [_, _], _ => rfl
  have b36 := F36.binds (ps := ["_law_thing"]) fun _ _ _ _ _ _ us hl => match us, hl with | [_], _ => rfl
  have b37 := F37.binds (ps := ["_law_thing", "_law_names_here"]) fun _ _ _ _ _ _ us hl => match us, hl with | [_, _], _ => rfl
  have b38 := F38.binds (ps := ["_law_thing", "_law_names_here", "_law_commands", "_law_keeps"]) fun _ _ _ _ _ _ us hl => match us, hl with | [_, _, _, _], _ => rfl
  have b39 := F39.binds (ps := ["_law_thing", "_law_names_here", "_law_commands", "_law_keeps"]) fun _ _ _ _ _ _ us hl => match us, hl with | [_, _, _, _], _ => rfl
  have b40 := F40.binds (ps := ["_law_thing"]) fun _ _ _ _ _ _ us hl => match us, hl with | [_], _ => rfl
  have b41 := F41.binds (ps := ["_law_pool_here", "_law_thing", "_law_over"]) fun _ _ _ _ _ _ us hl => match us, hl with | [_, _, _], _ => rfl
  have b42 := F42.binds (ps := ["_law_thing"]) fun _ _ _ _ _ _ us hl => match us, hl with | [_], _ => rfl
  have b43 := F43.binds (ps := ["_law_e"]) fun _ _ _ _ _ _ us hl => match us, hl with | [_], _ => rfl
  have b44 := F44.binds (ps := ["_law_thing"]) fun _ _ _ _ _ _ us hl => match us, hl with | [_], _ => rfl
  have T : Bi mg := ⟨PySem.W.mg_none_of X G z_ValueError, PySem.W.mg_none_of X G z_range, PySem.W.mg_none_of X G z_tuple, PySem.W.mg_none_of X G z_isinstance, PySem.W.mg_none_of X G z_int, PySem.W.mg_none_of X G z_len, PySem.W.mg_none_of X G z_str, PySem.W.mg_none_of X G z_all, PySem.W.mg_none_of X G z_bool, PySem.W.mg_none_of X G z_list, PySem.W.mg_none_of X G z_min⟩
  let S : XOne K mg "NoProgram" := ⟨xcNoProgram, ⟨PySem.W.mg_of X G gXNoProgram, kXNoProgram, bXNoProgram, tXNoProgram, hXNoProgram⟩, ⟨eX, ⟨e1, e2, bXNoProgram, hXNoProgram, e3, e4, e5, e6⟩, e7, e8⟩⟩
  have yTreeError : XSub K mg S.R "TreeError" true := ⟨xcTreeError, ⟨PySem.W.mg_of X G gXTreeError, kXTreeError, bXTreeError, tXTreeError, hXTreeError⟩, sXTreeError⟩
  have yNoMachine : XSub K mg S.R "NoMachine" false := ⟨xcNoMachine, ⟨PySem.W.mg_of X G gXNoMachine, kXNoMachine, bXNoMachine, tXNoMachine, hXNoMachine⟩, sXNoMachine⟩
  have yNoWishes : XSub K mg S.R "NoWishes" false := ⟨xcNoWishes, ⟨PySem.W.mg_of X G gXNoWishes, kXNoWishes, bXNoWishes, tXNoWishes, hXNoWishes⟩, sXNoWishes⟩
  have yNoProgram : XSub K mg S.R "NoProgram" true := ⟨xcNoProgram, ⟨PySem.W.mg_of X G gXNoProgram, kXNoProgram, bXNoProgram, tXNoProgram, hXNoProgram⟩, sXNoProgram⟩
  have yNoSaying : XSub K mg S.R "NoSaying" false := ⟨xcNoSaying, ⟨PySem.W.mg_of X G gXNoSaying, kXNoSaying, bXNoSaying, tXNoSaying, hXNoSaying⟩, sXNoSaying⟩
  have yNoText : XSub K mg S.R "NoText" false := ⟨xcNoText, ⟨PySem.W.mg_of X G gXNoText, kXNoText, bXNoText, tXNoText, hXNoText⟩, sXNoText⟩
  have yNoRun : XSub K mg S.R "NoRun" false := ⟨xcNoRun, ⟨PySem.W.mg_of X G gXNoRun, kXNoRun, bXNoRun, tXNoRun, hXNoRun⟩, sXNoRun⟩
  have yNoWay : XSub K mg S.R "NoWay" false := ⟨xcNoWay, ⟨PySem.W.mg_of X G gXNoWay, kXNoWay, bXNoWay, tXNoWay, hXNoWay⟩, sXNoWay⟩
  have yNoSheet : XSub K mg S.R "NoSheet" false := ⟨xcNoSheet, ⟨PySem.W.mg_of X G gXNoSheet, kXNoSheet, bXNoSheet, tXNoSheet, hXNoSheet⟩, sXNoSheet⟩
  have yNoPaper : XSub K mg S.R "NoPaper" false := ⟨xcNoPaper, ⟨PySem.W.mg_of X G gXNoPaper, kXNoPaper, bXNoPaper, tXNoPaper, hXNoPaper⟩, sXNoPaper⟩
  have yNoDeed : XSub K mg S.R "NoDeed" false := ⟨xcNoDeed, ⟨PySem.W.mg_of X G gXNoDeed, kXNoDeed, bXNoDeed, tXNoDeed, hXNoDeed⟩, sXNoDeed⟩
  have yTwice : XSub K mg S.R "Twice" false := ⟨xcTwice, ⟨PySem.W.mg_of X G gXTwice, kXTwice, bXTwice, tXTwice, hXTwice⟩, sXTwice⟩
  have yMissing : XSub K mg S.R "Missing" false := ⟨xcMissing, ⟨PySem.W.mg_of X G gXMissing, kXMissing, bXMissing, tXMissing, hXMissing⟩, sXMissing⟩
  have yNothing : XSub K mg S.R "Nothing" false := ⟨xcNothing, ⟨PySem.W.mg_of X G gXNothing, kXNothing, bXNothing, tXNothing, hXNothing⟩, sXNothing⟩
  have yFull : XSub K mg S.R "Full" false := ⟨xcFull, ⟨PySem.W.mg_of X G gXFull, kXFull, bXFull, tXFull, hXFull⟩, sXFull⟩
  have yBroken : XSub K mg S.R "Broken" false := ⟨xcBroken, ⟨PySem.W.mg_of X G gXBroken, kXBroken, bXBroken, tXBroken, hXBroken⟩, sXBroken⟩
  have yTooGreat : XSub K mg S.R "TooGreat" false := ⟨xcTooGreat, ⟨PySem.W.mg_of X G gXTooGreat, kXTooGreat, bXTooGreat, tXTooGreat, hXTooGreat⟩, sXTooGreat⟩
  have yTooMany : XSub K mg S.R "TooMany" false := ⟨xcTooMany, ⟨PySem.W.mg_of X G gXTooMany, kXTooMany, bXTooMany, tXTooMany, hXTooMany⟩, sXTooMany⟩
  have yAreAlike : XSub K mg S.R "AreAlike" false := ⟨xcAreAlike, ⟨PySem.W.mg_of X G gXAreAlike, kXAreAlike, bXAreAlike, tXAreAlike, hXAreAlike⟩, sXAreAlike⟩
  have W : Wd K mg := ⟨aWORDS, uLETTERS, PySem.W.mg_of X G gWORDS, rfl, fun _ => .inr ⟨_, _, _, lWORDS, rfl, rfl, sWORDS, vWORDS⟩, PySem.W.mg_of X G gLETTERS, rLETTERS⟩
  have W2 : Wp K mg := ⟨aTESTS, aASKS, PySem.W.mg_of X G gTESTS, rfl, fun _ => .inr ⟨_, _, _, lTESTS, rfl, rfl, sTESTS, vTESTS⟩, PySem.W.mg_of X G gASKS, rfl, fun _ => .inr ⟨_, _, _, lASKS, rfl, rfl, sASKS, vASKS⟩⟩
  refine ⟨PySem.W.fnOf "law" "law" (defArgs slaw) (defBody slaw) (defScope slaw) .none kV45 dc45 pm45 an45 cd45 ct45, fun s v => .of_eq rfl, fun base _ _ => ?_⟩
  have cis_whole : Cal l.prog w K mg base 1 "is_whole" ["thing"] (spWholeT K) := ⟨f1, _, ok_wholeT F1 T, PySem.W.mg_of X G a1, F1.kp, b1⟩
  have cis_number : Cal l.prog w K mg base 2 "is_number" ["thing", "low", "high"] (spNumT K) := ⟨f2, _, ok_numT F2 T cis_whole, PySem.W.mg_of X G a2, F2.kp, b2⟩
  have cis_row : Cal l.prog w K mg base 1 "is_row" ["thing", "least", "most"] (spRowT K) := ⟨f3, _, ok_rowT F3 T, PySem.W.mg_of X G a3, F3.kp, b3⟩
  have cis_name : Cal l.prog w K mg base 1 "is_name" ["thing"] (spNameT K) := ⟨f4, _, ok_nameT F4 T W, PySem.W.mg_of X G a4, F4.kp, b4⟩
  have cis_of : Cal l.prog w K mg base 2 "is_of" ["thing", "names"] (spOf K) := ⟨f5, _, ok_of F5 cis_name, PySem.W.mg_of X G a5, F5.kp, b5⟩
  have care_unlike : Cal l.prog w K mg base 1 "are_unlike" ["names"] (spUnlike K) := ⟨f6, _, ok_unlike F6 T, PySem.W.mg_of X G a6, F6.kp, b6⟩
  have cis_worth : Cal l.prog w K mg base 3 "is_worth" ["thing", "cells"] (spWorth K) := ⟨f7, _, ok_worth F7 cis_row cis_number cis_of, PySem.W.mg_of X G a7, F7.kp, b7⟩
  have cis_test : Cal l.prog w K mg base 4 "is_test" ["thing", "cells"] (spTest K) := ⟨f8, _, ok_test F8 T W2 cis_row cis_of cis_worth, PySem.W.mg_of X G a8, F8.kp, b8⟩
  have cis_set_row : Cal l.prog w K mg base 4 "is_set_row" ["thing", "cells"] (spSetRow K) := ⟨f9, _, ok_setrow F9 cis_row cis_of cis_worth, PySem.W.mg_of X G a9, F9.kp, b9⟩
  have cis_cell : Cal l.prog w K mg base 3 "is_cell" ["thing"] (spCell K) := ⟨f10, _, ok_cell F10 cis_row cis_name cis_number, PySem.W.mg_of X G a10, F10.kp, b10⟩
  have cis_command : Cal l.prog w K mg base 5 "is_command" ["thing", "cells"] (spCommand K) := ⟨f11, _, ok_command F11 T cis_row cis_name cis_test cis_set_row care_unlike, PySem.W.mg_of X G a11, F11.kp, b11⟩
  have cis_ask : Cal l.prog w K mg base 5 "is_ask" ["thing", "cells", "commands", "keeps"] (spAsk K) := ⟨f12, _, ok_ask F12 T W2 cis_row cis_of cis_test, PySem.W.mg_of X G a12, F12.kp, b12⟩
  have cis_mark : Cal l.prog w K mg base 6 "is_mark" ["thing", "cells", "commands", "keeps"] (spMark K) := ⟨f13, _, ok_mark F13 T cis_row cis_name cis_ask, PySem.W.mg_of X G a13, F13.kp, b13⟩
  have cis_program : Cal l.prog w K mg base 7 "is_program" ["thing"] (spProg K) := ⟨f14, _, ok_prog F14 T cis_row cis_cell cis_command cis_mark care_unlike, PySem.W.mg_of X G a14, F14.kp, b14⟩
  have ccheck : CalX l.prog w K mg base 8 "check" ["thing"] (spCk K S.R) := ⟨f15, _, ok_ck F15 S cis_program, PySem.W.mg_of X G a15, F15.kp, b15⟩
  have c_law_pool : Cal l.prog w K mg base 1 "_law_pool" ["_law_script"] (spPool K) := ⟨f16, _, ok_pool F16 , PySem.W.mg_of X G a16, F16.kp, b16⟩
  have c_law_draw : Cal l.prog w K mg base 1 "_law_draw" ["_law_pool_here", "_law_many"] spDraw := ⟨f17, _, ok_draw F17 T, PySem.W.mg_of X G a17, F17.kp, b17⟩
  have c_law_name : Cal l.prog w K mg base 2 "_law_name" ["_law_pool_here", "_law_start", "_law_taken"] spLName := ⟨f18, _, ok_lname F18 T c_law_draw, PySem.W.mg_of X G a18, F18.kp, b18⟩
  have c_law_names : Cal l.prog w K mg base 3 "_law_names" ["_law_pool_here", "_law_many"] spLNames := ⟨f19, _, ok_lnames F19 T c_law_draw c_law_name, PySem.W.mg_of X G a19, F19.kp, b19⟩
  have c_law_odd : Cal l.prog w K mg base 2 "_law_odd" ["_law_pool_here"] (spOdd K) := ⟨f20, _, ok_odd F20 c_law_draw, PySem.W.mg_of X G a20, F20.kp, b20⟩
  have c_law_bent : Cal l.prog w K mg base 10 "_law_bent" ["_law_pool_here", "_law_thing", "_law_deep"] (spB K 8) := ⟨f21, _, ok_bent F21 T c_law_draw c_law_odd (PySem.W.mg_of X G a21) F21.kp b21 8, PySem.W.mg_of X G a21, F21.kp, b21⟩
  have c_law_number : Cal l.prog w K mg base 1 "_law_number" ["_law_thing", "_law_low", "_law_high"] (spNumT K) := ⟨f22, _, ok_lnumT F22 T, PySem.W.mg_of X G a22, F22.kp, b22⟩
  have c_law_tuple : Cal l.prog w K mg base 1 "_law_tuple" ["_law_thing", "_law_least", "_law_most"] (spRowT K) := ⟨f23, _, ok_ltupT F23 T, PySem.W.mg_of X G a23, F23.kp, b23⟩
  have c_law_good_name : Cal l.prog w K mg base 1 "_law_good_name" ["_law_thing"] (spNameT K) := ⟨f24, _, ok_goodT F24 T, PySem.W.mg_of X G a24, F24.kp, b24⟩
  have c_law_worth : Cal l.prog w K mg base 2 "_law_worth" ["_law_pool_here", "_law_names_here"] (spLWorth K) := ⟨f25, _, ok_lworth F25 T c_law_draw, PySem.W.mg_of X G a25, F25.kp, b25⟩
  have c_law_test : Cal l.prog w K mg base 3 "_law_test" ["_law_pool_here", "_law_names_here"] (spLTest K) := ⟨f26, _, ok_ltest F26 T c_law_draw c_law_worth, PySem.W.mg_of X G a26, F26.kp, b26⟩
  have c_law_cells : Cal l.prog w K mg base 2 "_law_cells" ["_law_pool_here", "_law_names_here", "_law_room"] (spLCells K) := ⟨f27, _, ok_lcells F27 T c_law_draw, PySem.W.mg_of X G a27, F27.kp, b27⟩
  have c_law_command : Cal l.prog w K mg base 4 "_law_command" ["_law_pool_here", "_law_name_here", "_law_names_here"] (spLCommand K) := ⟨f28, _, ok_lcommand F28 T c_law_draw c_law_test c_law_worth, PySem.W.mg_of X G a28, F28.kp, b28⟩
  have c_law_ask : Cal l.prog w K mg base 4 "_law_ask" ["_law_pool_here", "_law_cells_here", "_law_commands", "_law_keeps"] (spLAsk K) := ⟨f29, _, ok_lask F29 T c_law_draw c_law_test, PySem.W.mg_of X G a29, F29.kp, b29⟩
  have c_law_marks : Cal l.prog w K mg base 5 "_law_marks" ["_law_pool_here", "_law_names_here", "_law_cells_here", "_law_commands", "_law_keeps"] (spLMarks K) := ⟨f30, _, ok_lmarks F30 T c_law_draw c_law_ask, PySem.W.mg_of X G a30, F30.kp, b30⟩
  have c_law_program : Cal l.prog w K mg base 6 "_law_program" ["_law_pool_here", "_law_room", "_law_commands", "_law_marks_here"] (spLProgram K) := ⟨f31, _, ok_lprogram F31 T c_law_draw c_law_names c_law_cells c_law_command c_law_marks, PySem.W.mg_of X G a31, F31.kp, b31⟩
  have c_law_unlike : Cal l.prog w K mg base 1 "_law_unlike" ["_law_rows"] (spLUnlike K) := ⟨f32, _, ok_lunlike F32 T, PySem.W.mg_of X G a32, F32.kp, b32⟩
  have c_law_is_of : Cal l.prog w K mg base 2 "_law_is_of" ["_law_thing", "_law_names_here"] (spOf K) := ⟨f33, _, ok_lof F33 c_law_good_name, PySem.W.mg_of X G a33, F33.kp, b33⟩
  have c_law_is_worth : Cal l.prog w K mg base 3 "_law_is_worth" ["_law_thing", "_law_names_here"] (spWorth K) := ⟨f34, _, ok_lworthB F34 c_law_tuple c_law_number c_law_is_of, PySem.W.mg_of X G a34, F34.kp, b34⟩
  have c_law_is_test : Cal l.prog w K mg base 4 "_law_is_test" ["_law_thing", "_law_names_here"] (spTest K) := ⟨f35, _, ok_ltestB F35 T c_law_tuple c_law_is_of c_law_is_worth, PySem.W.mg_of X G a35, F35.kp, b35⟩
  have c_law_are_cells : Cal l.prog w K mg base 2 "_law_are_cells" ["_law_thing"] (spCells K) := ⟨f36, _, ok_arecells F36 c_law_tuple c_law_good_name c_law_number c_law_unlike, PySem.W.mg_of X G a36, F36.kp, b36⟩
  have c_law_are_commands : Cal l.prog w K mg base 5 "_law_are_commands" ["_law_thing", "_law_names_here"] (spCommands K) := ⟨f37, _, ok_arecommands F37 c_law_tuple c_law_good_name c_law_unlike c_law_is_of c_law_is_worth c_law_is_test, PySem.W.mg_of X G a37, F37.kp, b37⟩
  have c_law_is_ask : Cal l.prog w K mg base 5 "_law_is_ask" ["_law_thing", "_law_names_here", "_law_commands", "_law_keeps"] (spAsk K) := ⟨f38, _, ok_laskB F38 T c_law_tuple c_law_is_of c_law_is_test, PySem.W.mg_of X G a38, F38.kp, b38⟩
  have c_law_are_marks : Cal l.prog w K mg base 6 "_law_are_marks" ["_law_thing", "_law_names_here", "_law_commands", "_law_keeps"] (spMarks K) := ⟨f39, _, ok_aremarks F39 c_law_tuple c_law_good_name c_law_unlike c_law_is_ask, PySem.W.mg_of X G a39, F39.kp, b39⟩
  have c_law_is_program : Cal l.prog w K mg base 7 "_law_is_program" ["_law_thing"] (spProg K) := ⟨f40, _, ok_lprog F40 T c_law_tuple c_law_are_cells c_law_are_commands c_law_are_marks, PySem.W.mg_of X G a40, F40.kp, b40⟩
  have c_law_overfull : Cal l.prog w K mg base 4 "_law_overfull" ["_law_pool_here", "_law_thing", "_law_over"] (spOver K) := ⟨f41, _, ok_over F41 T c_law_draw c_law_names, PySem.W.mg_of X G a41, F41.kp, b41⟩
  have c_law_checked : Cal l.prog w K mg base 9 "_law_checked" ["_law_thing"] (spChecked K progB) := ⟨f42, _, ok_checked F42 S ccheck, PySem.W.mg_of X G a42, F42.kp, b42⟩
  have c_law_kinds : KND.CalE l.prog w K mg base 1 "_law_kinds" ["_law_e"] S.R (spKinds 2) := ⟨f43, _, ok_kinds F43 T S yTreeError yNoMachine yNoWishes yNoProgram yNoSaying yNoText yNoRun yNoWay yNoSheet yNoPaper yNoDeed yTwice yMissing yNothing yFull yBroken yTooGreat yTooMany yAreAlike, PySem.W.mg_of X G a43, F43.kp, b43⟩
  have c_law_by_base : Cal l.prog w K mg base 9 "_law_by_base" ["_law_thing"] (spByBase K progB) := ⟨f44, _, ok_bybase F44 T S yTreeError ccheck c_law_kinds, PySem.W.mg_of X G a44, F44.kp, b44⟩
  exact ok_law F45 S T c_law_pool c_law_draw c_law_program c_law_overfull c_law_bent c_law_is_program c_law_checked c_law_by_base ccheck
end Fx
open PySem PySem.W PyProof.Rows
set_option maxHeartbeats 0 in
theorem PySem.Challenge.cw_fairtrees_k06_no_program_holds : PySem.Challenge.rw_fairtrees_k06_no_program.Holds := by
  w_on; o_law; k_head; (case hw => w_witness2)
  k_fill
  refine L2.walk_of (l := PySem.Challenge.rw_fairtrees_k06_no_program) (n := 63) (k := 11) (x := "_law_script") (CX := fun _ => L2.CX0) (sp := fun w => Fx.spLaw _) rfl (by decide) rfl ⟨rfl, by decide, by decide⟩ (fun w h Y => PySem.W.kIn_of Y) ?F (fun _ _ a ns hl _ hS => ⟨a, ns, rfl, hS, hl, fun _ => rfl⟩) (fun _ _ _ _ _ h => h)
  case F =>
    intro w mg fa h KX G hmg
    refine' Fx.all_mk KX G hmg ?a1 ?l1 ?c1 ?k1 ?a2 ?l2 ?c2 ?k2 ?a3 ?l3 ?c3 ?k3 ?a4 ?l4 ?c4 ?k4 ?a5 ?l5 ?c5 ?k5 ?a6 ?l6 ?c6 ?k6 ?a7 ?l7 ?c7 ?k7 ?a8 ?l8 ?c8 ?k8 ?a9 ?l9 ?c9 ?k9 ?a10 ?l10 ?c10 ?k10 ?a11 ?l11 ?c11 ?k11 ?a12 ?l12 ?c12 ?k12 ?a13 ?l13 ?c13 ?k13 ?a14 ?l14 ?c14 ?k14 ?a15 ?l15 ?c15 ?k15 ?a16 ?l16 ?c16 ?k16 ?a17 ?l17 ?c17 ?k17 ?a18 ?l18 ?c18 ?k18 ?a19 ?l19 ?c19 ?k19 ?a20 ?l20 ?c20 ?k20 ?a21 ?l21 ?c21 ?k21 ?a22 ?l22 ?c22 ?k22 ?a23 ?l23 ?c23 ?k23 ?a24 ?l24 ?c24 ?k24 ?a25 ?l25 ?c25 ?k25 ?a26 ?l26 ?c26 ?k26 ?a27 ?l27 ?c27 ?k27 ?a28 ?l28 ?c28 ?k28 ?a29 ?l29 ?c29 ?k29 ?a30 ?l30 ?c30 ?k30 ?a31 ?l31 ?c31 ?k31 ?a32 ?l32 ?c32 ?k32 ?a33 ?l33 ?c33 ?k33 ?a34 ?l34 ?c34 ?k34 ?a35 ?l35 ?c35 ?k35 ?a36 ?l36 ?c36 ?k36 ?a37 ?l37 ?c37 ?k37 ?a38 ?l38 ?c38 ?k38 ?a39 ?l39 ?c39 ?k39 ?a40 ?l40 ?c40 ?k40 ?a41 ?l41 ?c41 ?k41 ?a42 ?l42 ?c42 ?k42 ?a43 ?l43 ?c43 ?k43 ?a44 ?l44 ?c44 ?k44 ?a45 ?l45 ?c45 ?k45 ?z_ValueError ?z_range ?z_tuple ?z_isinstance ?z_int ?z_len ?z_str ?z_all ?z_bool ?z_list ?z_min ?gWORDS ?lWORDS ?sWORDS ?vWORDS ?gTESTS ?lTESTS ?sTESTS ?vTESTS ?gASKS ?lASKS ?sASKS ?vASKS ?gLETTERS ?rLETTERS ?gXNoProgram ?kXNoProgram ?bXNoProgram ?tXNoProgram ?hXNoProgram ?eX ?e1 ?e2 ?e3 ?e4 ?e5 ?e6 ?e7 ?e8 ?gXTreeError ?kXTreeError ?bXTreeError ?tXTreeError ?hXTreeError ?sXTreeError ?gXNoMachine ?kXNoMachine ?bXNoMachine ?tXNoMachine ?hXNoMachine ?sXNoMachine ?gXNoWishes ?kXNoWishes ?bXNoWishes ?tXNoWishes ?hXNoWishes ?sXNoWishes ?sXNoProgram ?gXNoSaying ?kXNoSaying ?bXNoSaying ?tXNoSaying ?hXNoSaying ?sXNoSaying ?gXNoText ?kXNoText ?bXNoText ?tXNoText ?hXNoText ?sXNoText ?gXNoRun ?kXNoRun ?bXNoRun ?tXNoRun ?hXNoRun ?sXNoRun ?gXNoWay ?kXNoWay ?bXNoWay ?tXNoWay ?hXNoWay ?sXNoWay ?gXNoSheet ?kXNoSheet ?bXNoSheet ?tXNoSheet ?hXNoSheet ?sXNoSheet ?gXNoPaper ?kXNoPaper ?bXNoPaper ?tXNoPaper ?hXNoPaper ?sXNoPaper ?gXNoDeed ?kXNoDeed ?bXNoDeed ?tXNoDeed ?hXNoDeed ?sXNoDeed ?gXTwice ?kXTwice ?bXTwice ?tXTwice ?hXTwice ?sXTwice ?gXMissing ?kXMissing ?bXMissing ?tXMissing ?hXMissing ?sXMissing ?gXNothing ?kXNothing ?bXNothing ?tXNothing ?hXNothing ?sXNothing ?gXFull ?kXFull ?bXFull ?tXFull ?hXFull ?sXFull ?gXBroken ?kXBroken ?bXBroken ?tXBroken ?hXBroken ?sXBroken ?gXTooGreat ?kXTooGreat ?bXTooGreat ?tXTooGreat ?hXTooGreat ?sXTooGreat ?gXTooMany ?kXTooMany ?bXTooMany ?tXTooMany ?hXTooMany ?sXTooMany ?gXAreAlike ?kXAreAlike ?bXAreAlike ?tXAreAlike ?hXAreAlike ?sXAreAlike
    (case a1 => k_is); (case l1 => k_is); (case c1 => k_is); (case k1 => k_is); (case a2 => k_is); (case l2 => k_is); (case c2 => k_is); (case k2 => k_is); (case a3 => k_is); (case l3 => k_is); (case c3 => k_is); (case k3 => k_is); (case a4 => k_is); (case l4 => k_is); (case c4 => k_is); (case k4 => k_is); (case a5 => k_is); (case l5 => k_is); (case c5 => k_is); (case k5 => k_is); (case a6 => k_is); (case l6 => k_is); (case c6 => k_is); (case k6 => k_is); (case a7 => k_is); (case l7 => k_is); (case c7 => k_is); (case k7 => k_is); (case a8 => k_is); (case l8 => k_is); (case c8 => k_is); (case k8 => k_is); (case a9 => k_is); (case l9 => k_is); (case c9 => k_is); (case k9 => k_is); (case a10 => k_is); (case l10 => k_is); (case c10 => k_is); (case k10 => k_is); (case a11 => k_is); (case l11 => k_is); (case c11 => k_is); (case k11 => k_is); (case a12 => k_is); (case l12 => k_is); (case c12 => k_is); (case k12 => k_is); (case a13 => k_is); (case l13 => k_is); (case c13 => k_is); (case k13 => k_is); (case a14 => k_is); (case l14 => k_is); (case c14 => k_is); (case k14 => k_is); (case a15 => k_is); (case l15 => k_is); (case c15 => k_is); (case k15 => k_is); (case a16 => k_is); (case l16 => k_is); (case c16 => k_is); (case k16 => k_is); (case a17 => k_is); (case l17 => k_is); (case c17 => k_is); (case k17 => k_is); (case a18 => k_is); (case l18 => k_is); (case c18 => k_is); (case k18 => k_is); (case a19 => k_is); (case l19 => k_is); (case c19 => k_is); (case k19 => k_is); (case a20 => k_is); (case l20 => k_is); (case c20 => k_is); (case k20 => k_is); (case a21 => k_is); (case l21 => k_is); (case c21 => k_is); (case k21 => k_is); (case a22 => k_is); (case l22 => k_is); (case c22 => k_is); (case k22 => k_is); (case a23 => k_is); (case l23 => k_is); (case c23 => k_is); (case k23 => k_is); (case a24 => k_is); (case l24 => k_is); (case c24 => k_is); (case k24 => k_is); (case a25 => k_is); (case l25 => k_is); (case c25 => k_is); (case k25 => k_is); (case a26 => k_is); (case l26 => k_is); (case c26 => k_is); (case k26 => k_is); (case a27 => k_is); (case l27 => k_is); (case c27 => k_is); (case k27 => k_is); (case a28 => k_is); (case l28 => k_is); (case c28 => k_is); (case k28 => k_is); (case a29 => k_is); (case l29 => k_is); (case c29 => k_is); (case k29 => k_is); (case a30 => k_is); (case l30 => k_is); (case c30 => k_is); (case k30 => k_is); (case a31 => k_is); (case l31 => k_is); (case c31 => k_is); (case k31 => k_is); (case a32 => k_is); (case l32 => k_is); (case c32 => k_is); (case k32 => k_is); (case a33 => k_is); (case l33 => k_is); (case c33 => k_is); (case k33 => k_is); (case a34 => k_is); (case l34 => k_is); (case c34 => k_is); (case k34 => k_is); (case a35 => k_is); (case l35 => k_is); (case c35 => k_is); (case k35 => k_is); (case a36 => k_is); (case l36 => k_is); (case c36 => k_is); (case k36 => k_is); (case a37 => k_is); (case l37 => k_is); (case c37 => k_is); (case k37 => k_is); (case a38 => k_is); (case l38 => k_is); (case c38 => k_is); (case k38 => k_is); (case a39 => k_is); (case l39 => k_is); (case c39 => k_is); (case k39 => k_is); (case a40 => k_is); (case l40 => k_is); (case c40 => k_is); (case k40 => k_is); (case a41 => k_is); (case l41 => k_is); (case c41 => k_is); (case k41 => k_is); (case a42 => k_is); (case l42 => k_is); (case c42 => k_is); (case k42 => k_is); (case a43 => k_is); (case l43 => k_is); (case c43 => k_is); (case k43 => k_is); (case a44 => k_is); (case l44 => k_is); (case c44 => k_is); (case k44 => k_is); (case a45 => k_is); (case l45 => k_is); (case c45 => k_is); (case k45 => k_is); (case z_ValueError => k_is); (case z_range => k_is); (case z_tuple => k_is); (case z_isinstance => k_is); (case z_int => k_is); (case z_len => k_is); (case z_str => k_is); (case z_all => k_is); (case z_bool => k_is); (case z_list => k_is); (case z_min => k_is); (case gWORDS => k_is); (case lWORDS => k_is); (case gTESTS => k_is); (case lTESTS => k_is); (case gASKS => k_is); (case lASKS => k_is); (case gLETTERS => k_is); (case gXNoProgram => k_is); (case kXNoProgram => k_is); (case bXNoProgram => k_is); (case tXNoProgram => k_is); (case hXNoProgram => k_is); (case gXTreeError => k_is); (case kXTreeError => k_is); (case bXTreeError => k_is); (case tXTreeError => k_is); (case hXTreeError => k_is); (case gXNoMachine => k_is); (case kXNoMachine => k_is); (case bXNoMachine => k_is); (case tXNoMachine => k_is); (case hXNoMachine => k_is); (case gXNoWishes => k_is); (case kXNoWishes => k_is); (case bXNoWishes => k_is); (case tXNoWishes => k_is); (case hXNoWishes => k_is); (case gXNoSaying => k_is); (case kXNoSaying => k_is); (case bXNoSaying => k_is); (case tXNoSaying => k_is); (case hXNoSaying => k_is); (case gXNoText => k_is); (case kXNoText => k_is); (case bXNoText => k_is); (case tXNoText => k_is); (case hXNoText => k_is); (case gXNoRun => k_is); (case kXNoRun => k_is); (case bXNoRun => k_is); (case tXNoRun => k_is); (case hXNoRun => k_is); (case gXNoWay => k_is); (case kXNoWay => k_is); (case bXNoWay => k_is); (case tXNoWay => k_is); (case hXNoWay => k_is); (case gXNoSheet => k_is); (case kXNoSheet => k_is); (case bXNoSheet => k_is); (case tXNoSheet => k_is); (case hXNoSheet => k_is); (case gXNoPaper => k_is); (case kXNoPaper => k_is); (case bXNoPaper => k_is); (case tXNoPaper => k_is); (case hXNoPaper => k_is); (case gXNoDeed => k_is); (case kXNoDeed => k_is); (case bXNoDeed => k_is); (case tXNoDeed => k_is); (case hXNoDeed => k_is); (case gXTwice => k_is); (case kXTwice => k_is); (case bXTwice => k_is); (case tXTwice => k_is); (case hXTwice => k_is); (case gXMissing => k_is); (case kXMissing => k_is); (case bXMissing => k_is); (case tXMissing => k_is); (case hXMissing => k_is); (case gXNothing => k_is); (case kXNothing => k_is); (case bXNothing => k_is); (case tXNothing => k_is); (case hXNothing => k_is); (case gXFull => k_is); (case kXFull => k_is); (case bXFull => k_is); (case tXFull => k_is); (case hXFull => k_is); (case gXBroken => k_is); (case kXBroken => k_is); (case bXBroken => k_is); (case tXBroken => k_is); (case hXBroken => k_is); (case gXTooGreat => k_is); (case kXTooGreat => k_is); (case bXTooGreat => k_is); (case tXTooGreat => k_is); (case hXTooGreat => k_is); (case gXTooMany => k_is); (case kXTooMany => k_is); (case bXTooMany => k_is); (case tXTooMany => k_is); (case hXTooMany => k_is); (case gXAreAlike => k_is); (case kXAreAlike => k_is); (case bXAreAlike => k_is); (case tXAreAlike => k_is); (case hXAreAlike => k_is)
    (case sWORDS => decide)
    (case vWORDS => repeat (first | exact .nil | refine .cons ⟨_, rfl⟩ ?_))
    (case sTESTS => decide)
    (case vTESTS => repeat (first | exact .nil | refine .cons ⟨_, rfl⟩ ?_))
    (case sASKS => decide)
    (case vASKS => repeat (first | exact .nil | refine .cons ⟨_, rfl⟩ ?_))
    (case rLETTERS => exact ⟨_, rfl⟩)
    (case eX => k_exc)
    (case e1 => first | rfl | k_is)
    (case e2 => first | rfl | k_is)
    (case e3 => first | rfl | k_is)
    (case e4 => first | rfl | k_is)
    (case e5 => first | rfl | k_is)
    (case e6 => first | rfl | k_is)
    (case e7 => first | rfl | k_is)
    (case e8 => first | rfl | k_is)
    (case sXTreeError => first | rfl | k_is)
    (case sXNoMachine => first | rfl | k_is)
    (case sXNoWishes => first | rfl | k_is)
    (case sXNoProgram => first | rfl | k_is)
    (case sXNoSaying => first | rfl | k_is)
    (case sXNoText => first | rfl | k_is)
    (case sXNoRun => first | rfl | k_is)
    (case sXNoWay => first | rfl | k_is)
    (case sXNoSheet => first | rfl | k_is)
    (case sXNoPaper => first | rfl | k_is)
    (case sXNoDeed => first | rfl | k_is)
    (case sXTwice => first | rfl | k_is)
    (case sXMissing => first | rfl | k_is)
    (case sXNothing => first | rfl | k_is)
    (case sXFull => first | rfl | k_is)
    (case sXBroken => first | rfl | k_is)
    (case sXTooGreat => first | rfl | k_is)
    (case sXTooMany => first | rfl | k_is)
    (case sXAreAlike => first | rfl | k_is)
