import PyProof.Rows.All
import Wide.All
import OpenK.AllK
import Wide.FinOn
import HandS.ForMost
import HandS.TupAny
import HandS.TupMul
import HandS.IsInst
import HandS.TupLe
import HandS.DictComp
import HandS.Conv
import HandS.Walk
import HandS.Evl
import KE.GoesMore
import PyProof.Draws
import PyProof.CollectIter
import PyProof.WalksMore
import PyProof.TupleOfSeq
import KE.KDictList
import HandS.Defaults
import HandS.MakeKwOnly
import HandS.Deep
import HandS.WordsExc
import HandS.ExcOwn
import HandS.TryOnly
import HandS.ExcIs
import HandS.SetKeys
import HandS.SetBool
import HandS.Style
import HandS.HotCalls
import HandS.ExcInit
import HandS.ExcField
import KE.KExcIs
import PySem.Challenge.RW_fairtrees_k13_no_saying_and_its_row
set_option Elab.async false
set_option linter.all false
set_option maxRecDepth 100000
set_option maxHeartbeats 4000000
namespace Fx
open PySem PySem.Spec PyProof.Rows L2
def topS (i : Nat) : Stmt := PySem.Challenge.pw_fairtrees_k13_no_saying_and_its_row.main.body.getD i (.Pass ⟨0, 0, 0, 0⟩)

/-! ### heaps, data, the pool of draws -/
/-- a def of the text as its callers see it -/
structure Cal (P : Program) (w : World) (K : PySem.W.Frag) (mg : Str → Option Value) (base : Heap) (k : Nat) (x : Str) (ps : List Str) (sp : Sp) where
  f : Addr
  fd : FuncData
  G : FnOk P w K mg base CX0 k f fd ps sp
  g : mg x = some (.ref f)
  kp : PySem.W.keepIn K (.ref f) = true
  b : Binds K fd ps []
theorem same_upd {H : Hp} {p : Addr} {o : HO} (h : H p = none) : Same H (upd H p o) := fun b x e => by
  rw [upd_ne (ne_of_none e h)]
  exact e
/-- an object that H does not know may change -/
theorem smut {H H' : Hp} {p : Addr} {o : HO} (e : Same H H') (h : H p = none) : Same H (upd H' p o) := fun a u ha => by
  rw [upd_ne (ne_of_none ha h)]
  exact e a u ha
/-- all tuples stand -/
def Imm (H H' : Hp) : Prop := ∀ a xs, Rd H a (.tup xs) → Rd H' a (.tup xs)
theorem Imm.refl (H : Hp) : Imm H H := fun _ _ h => h
theorem Imm.trans {H H1 H2 : Hp} (a : Imm H H1) (b : Imm H1 H2) : Imm H H2 := fun x xs h => b x xs (a x xs h)
theorem simm {H H' : Hp} (e : Same H H') : Imm H H' := fun a xs h => by
  rcases h with h | ⟨o, h⟩
  · exact .inl (e _ _ h)
  · exact .inr ⟨o, e _ _ h⟩
theorem Imm.sq {K : PySem.W.Frag} {H H' : Hp} {a : Addr} {xs : List V} (e : Imm H H') (h : SqT K H a xs) : SqT K H' a xs := by
  rcases h with h | h
  · exact .inl (e _ _ h)
  · exact .inr h
theorem ssqt {K : PySem.W.Frag} {H H' : Hp} {a : Addr} {xs : List V} (e : Same H H') (h : SqT K H a xs) : SqT K H' a xs := (simm e).sq h
/-- a list that changes is no tuple -/
theorem Imm.list {H : Hp} {p : Addr} {xs : List V} {o : HO} (h : H p = some (.lst xs)) : Imm H (upd H p o) := fun a ys e => by
  rcases e with e | ⟨u, e⟩
  · exact .inl (by rw [upd_ne (ne_of h e (by intro q; cases q)).symm]; exact e)
  · exact .inr ⟨u, by rw [upd_ne (ne_of h e (by intro q; cases q)).symm]; exact e⟩
theorem Imm.new {H : Hp} {p : Addr} {o : HO} (h : H p = none) : Imm H (upd H p o) := simm (same_upd h)
/-- a list of addresses, each a tuple of such things -/
inductive Each {α : Type} (R : Addr → α → Prop) : List Addr → List α → Prop where
  | nil : Each R [] []
  | cons {a : Addr} {as : List Addr} {x : α} {xs : List α} (h : R a x) (t : Each R as xs) : Each R (a :: as) (x :: xs)
theorem Each.imp {α : Type} {R S : Addr → α → Prop} (f : ∀ a x, R a x → S a x) : ∀ {as : List Addr} {xs : List α}, Each R as xs → Each S as xs
  | _, _, .nil => .nil
  | _, _, .cons h t => .cons (f _ _ h) (t.imp f)
theorem Each.len {α : Type} {R : Addr → α → Prop} : ∀ {as : List Addr} {xs : List α}, Each R as xs → as.length = xs.length
  | _, _, .nil => rfl
  | _, _, .cons _ t => by rw [List.length_cons, List.length_cons, t.len]
theorem Each.get {α : Type} {R : Addr → α → Prop} : ∀ {as : List Addr} {xs : List α} {i : Nat} {a : Addr}, Each R as xs → as[i]? = some a → ∃ x, xs[i]? = some x ∧ R a x
  | _, _, _, _, .nil, h => by simp at h
  | _, _, 0, _, .cons (x := x) r _, h => by
    have e := Option.some.inj h
    subst e
    exact ⟨x, rfl, r⟩
  | _, _, i + 1, _, .cons _ t, h => by
    obtain ⟨x, h1, h2⟩ := t.get (i := i) (by simpa using h)
    exact ⟨x, by simpa using h1, h2⟩
theorem Each.getx {α : Type} {R : Addr → α → Prop} : ∀ {as : List Addr} {xs : List α} {i : Nat} {x : α}, Each R as xs → xs[i]? = some x → ∃ a, as[i]? = some a ∧ R a x
  | _, _, _, _, .nil, h => by simp at h
  | _, _, 0, _, .cons (a := a) r _, h => by
    have e := Option.some.inj h
    subst e
    exact ⟨a, rfl, r⟩
  | _, _, i + 1, _, .cons _ t, h => by
    obtain ⟨x, h1, h2⟩ := t.getx (i := i) (by simpa using h)
    exact ⟨x, by simpa using h1, h2⟩
theorem Each.snoc {α : Type} {R : Addr → α → Prop} {a : Addr} {x : α} (r : R a x) : ∀ {as : List Addr} {xs : List α}, Each R as xs → Each R (as ++ [a]) (xs ++ [x])
  | _, _, .nil => .cons r .nil
  | _, _, .cons h t => .cons h (t.snoc r)
theorem map_get {α : Type} {f : α → V} {xs : List α} {i : Nat} {v : V} (h : (xs.map f)[i]? = some v) : ∃ x, xs[i]? = some x ∧ v = f x := by
  rw [List.getElem?_map] at h
  cases e : xs[i]? with
  | none =>
    rw [e] at h
    cases h
  | some x =>
    rw [e] at h
    exact ⟨x, rfl, (Option.some.inj h).symm⟩
theorem get_map {α : Type} {f : α → V} {xs : List α} {i : Nat} {x : α} (h : xs[i]? = some x) : (xs.map f)[i]? = some (f x) := by
  rw [List.getElem?_map, h]
  rfl
theorem notdec {p : Prop} [Decidable p] (h : (!decide p) = true) : ¬ p := by simpa using h
theorem dec_of {p : Prop} [Decidable p] (h : ¬ ((!decide p) = true)) : p := by simpa using h
theorem ixN_nat {n j : Nat} (hj : j < n) : ixN n (j : Int) = some j := by
  unfold ixN
  rw [if_pos (by omega), if_pos (by omega)]
  simp
theorem ixN0 {n : Nat} (h : 0 < n) : ixN n 0 = some 0 := ixN_nat (j := 0) h
theorem six0 {n : Nat} (h : 0 < n) : seqIndex? 0 n = some 0 := by
  unfold seqIndex?
  simp
  omega
theorem szOk {n : Nat} (h : n ≤ 100000) : n ≤ sizeLine := Nat.le_trans h (by decide)
theorem szLt {n : Nat} (h : n < 100000) : n < sizeLine := Nat.lt_of_lt_of_le h (by decide)
theorem ty_sqt {K : PySem.W.Frag} {H : Hp} {a : Addr} {xs : List V} (h : SqT K H a xs) : TyX K H (.ref a) (.type "tuple") := by
  rcases h with (h | ⟨o, h⟩) | ⟨o, its, n, hk, hc, _⟩
  · exact .base (.tup h)
  · exact .fTuple h
  · exact .kTuple hk hc
/-- the pool's addresses: itself, its great numbers, its small ones -/
structure PA where
  p : Addr
  g : Addr
  s : Addr
def Off (a : PA) (b : Addr) : Prop := b ≠ a.p ∧ b ≠ a.g ∧ b ≠ a.s
structure Pool (H : Hp) (a : PA) (c : Nat) : Prop where
  ex : ∃ (gs ss : List Int) (st ct : Int), H a.p = some (.lst [.ref a.g, .ref a.s, .int st, .int ct]) ∧ H a.g = some (.lst (gs.map V.int)) ∧ H a.s = some (.lst (ss.map V.int)) ∧
    gs.length ≤ 63 ∧ ss.length ≤ 63 ∧ 0 ≤ st ∧ st < 2147483647 ∧ 0 ≤ ct ∧ ct ≤ c ∧ a.s ≠ a.g
/-- all but the pool stands -/
def Kp (a : PA) (H H' : Hp) : Prop := ∀ b o, H b = some o → Off a b → H' b = some o
theorem Kp.refl {a : PA} (H : Hp) : Kp a H H := fun _ _ h _ => h
theorem Kp.trans {a : PA} {H H1 H2 : Hp} (x : Kp a H H1) (y : Kp a H1 H2) : Kp a H H2 := fun c o h n => y c o (x c o h n) n
theorem skp {a : PA} {H H' : Hp} (s : Same H H') : Kp a H H' := fun b o h _ => s b o h
theorem Kp.mut {a : PA} {H H' : Hp} {q : Addr} {o : HO} (e : Kp a H H') (h : H q = none) : Kp a H (upd H' q o) := fun b u hb n => by
  rw [upd_ne (ne_of_none hb h)]
  exact e b u hb n
theorem Kp.free {a : PA} {H H' : Hp} {l : Addr} (k : Kp a H H') (h : H' l = none) (n : Off a l) : H l = none := by
  cases e : H l with
  | none => rfl
  | some o =>
    rw [k l o e n] at h
    cases h
theorem Pool.mono {H : Hp} {a : PA} {c c' : Nat} (P : Pool H a c) (h : c ≤ c') : Pool H a c' := by
  obtain ⟨gs, ss, st, ct, a1, a2, a3, a4, a5, a6, a7, a8, a9, a10⟩ := P.ex
  exact ⟨gs, ss, st, ct, a1, a2, a3, a4, a5, a6, a7, a8, by omega, a10⟩
theorem Pool.same {H H' : Hp} {a : PA} {c : Nat} (P : Pool H a c) (e : Same H H') : Pool H' a c := by
  obtain ⟨gs, ss, st, ct, a1, a2, a3, a4, a5, a6, a7, a8, a9, a10⟩ := P.ex
  exact ⟨gs, ss, st, ct, e _ _ a1, e _ _ a2, e _ _ a3, a4, a5, a6, a7, a8, a9, a10⟩
theorem Pool.off {H : Hp} {a : PA} {b : Addr} {c : Nat} (P : Pool H a c) (h : H b = none) : Off a b := by
  obtain ⟨gs, ss, st, ct, a1, a2, a3, a4, a5, a6, a7, a8, a9, a10⟩ := P.ex
  exact ⟨(ne_of_none a1 h).symm, (ne_of_none a2 h).symm, (ne_of_none a3 h).symm⟩
/-- what is no list is none of the pool's -/
theorem Pool.offo {H : Hp} {a : PA} {b : Addr} {c : Nat} {o : HO} (P : Pool H a c) (h : H b = some o) (n : ∀ xs, o ≠ .lst xs) : Off a b := by
  obtain ⟨gs, ss, st, ct, a1, a2, a3, a4, a5, a6, a7, a8, a9, a10⟩ := P.ex
  exact ⟨(ne_of a1 h (n _).symm).symm, (ne_of a2 h (n _).symm).symm, (ne_of a3 h (n _).symm).symm⟩
theorem Pool.imm {H H' : Hp} {a : PA} {c : Nat} (P : Pool H a c) (k : Kp a H H') : Imm H H' := fun b xs h => by
  rcases h with h | ⟨o, h⟩
  · exact .inl (k _ _ h (P.offo h fun _ q => by cases q))
  · exact .inr ⟨o, k _ _ h (P.offo h fun _ q => by cases q)⟩
/-- an object beside the pool is laid or changed -/
theorem Pool.upd {H : Hp} {a : PA} {b : Addr} {c : Nat} {o : HO} (P : Pool H a c) (n : Off a b) : Pool (upd H b o) a c := by
  obtain ⟨gs, ss, st, ct, a1, a2, a3, a4, a5, a6, a7, a8, a9, a10⟩ := P.ex
  exact ⟨gs, ss, st, ct, by rw [upd_ne n.1.symm]; exact a1, by rw [upd_ne n.2.1.symm]; exact a2, by rw [upd_ne n.2.2.symm]; exact a3, a4, a5, a6, a7, a8, a9, a10⟩
/-! ### rules within a comprehension's block: the written part by its name -/
section
variable {X : Cx}
theorem ixL (K : PySem.W.Frag) (h : X.K = K := by rfl) : IxR X (rIxL K) := by subst h; exact ix_list
theorem ixT (K : PySem.W.Frag) (h : X.K = K := by rfl) : IxR X (rIxT K) := by subst h; exact ix_tup
theorem inS (K : PySem.W.Frag) (h : X.K = K := by rfl) : OpR X (compareOp .In) (rIn K false) := by subst h; exact op_in_seq
theorem ninS (K : PySem.W.Frag) (h : X.K = K := by rfl) : OpR X (compareOp .NotIn) (rIn K true) := by subst h; exact op_notIn_seq
theorem lenS (K : PySem.W.Frag) (h : X.K = K := by rfl) : CallR X (.builtin "len") (fun xs H Q => ∃ p ys, xs = [.ref p] ∧ (SqL K H p ys ∨ SqT K H p ys) ∧ Q (.int ys.length) H) := by subst h; exact call_len_seq
theorem isiK (K : PySem.W.Frag) (h : X.K = K := by rfl) : CallR X (.builtin "isinstance") (rIsi K) := by subst h; exact call_isi
theorem tupOf (K : PySem.W.Frag) (h : X.K = K := by rfl) : CallR X (.type "tuple") (fun xs H Q => ∃ p ys, xs = [.ref p] ∧ ((SqL K H p ys ∧ ∀ l, H l = none → Q (.ref l) (upd H l (.tup ys))) ∨ (SqT K H p ys ∧ Q (.ref p) H))) := by subst h; exact call_tuple_of
theorem slL (K : PySem.W.Frag) (h : X.K = K := by rfl) : SlR X (rSlL K) := by subst h; exact sl_list
theorem slA (K : PySem.W.Frag) (h : X.K = K := by rfl) : SlR X (rSlA K) := by subst h; exact sl_tupA
theorem catA (K : PySem.W.Frag) (h : X.K = K := by rfl) : OpR X (binaryOp .Add) (rCatA K) := by subst h; exact op_catA
theorem sortS (K : PySem.W.Frag) (h : X.K = K := by rfl) : CallR X (.builtin "sorted") (rSortedS K) := by subst h; exact cr_sortedS
theorem sortI (K : PySem.W.Frag) (h : X.K = K := by rfl) : CallR X (.builtin "sorted") (rSorted K) := by subst h; exact cr_sorted
end
/-! ### comprehensions: what holds of the list so far -/
section
variable {K : PySem.W.Frag}
/-- over a range, its turns drawing from the pool (k draws a turn) -/
theorem lc_rangeP {lo : Int} {n j : Nat} {tt : TT} {te : TE} {vs : List Nat} {σ : L2.St} {H1 : Hp} {D : Addr} {Qd : Hp → Prop} {a : PA} {c0 : Nat} (k : Nat) (ok : Nat → List V → Prop)
    (P0 : Pool H1 a c0) (hD : H1 D = none) (hn : n ≤ 100000) (h0 : ok 0 []) (hw : ∀ x, wipe ((wipe σ vs).set j (some x)) vs = wipe σ vs)
    (turn : ∀ (i : Nat) (H : Hp) (acc : List V), i < n → Pool H a (c0 + i * k) → Kp a H1 H → ok i acc → acc.length ≤ i → ∀ (N1 : V → Hp → Prop) (N2 : Hp → Prop),
      (∀ y H', Pool H' a (c0 + i * k + k) → Kp a H H' → ok (i + 1) (acc ++ [y]) → N1 y H') → (∀ H', Pool H' a (c0 + i * k + k) → Kp a H H' → ok (i + 1) acc → N2 H') →
      tt ((wipe σ vs).set j (some (.int (lo + i)))) H fun b H3 => if b = true then te ((wipe σ vs).set j (some (.int (lo + i)))) H3 N1 else N2 H3)
    (done : ∀ (H : Hp) (acc : List V), Pool H a (c0 + n * k) → Kp a H1 H → H D = some (.lst acc) → acc.length ≤ n → ok n acc → Off a D → Qd H) :
    ∃ W : Nat → Nat → Hp → Prop, (∃ m, W 0 m (upd H1 D (.lst []))) ∧ ∀ i m H, W i m H →
      ((Itr lo n).stop i H ∧ Qd H) ∨ ((Itr lo n).go i H ∧ ∃ Nx : Hp → Prop, (∀ H', Nx H' → ∃ m', m' < m ∧ W (i + 1) m' H') ∧ ∀ x H', (Itr lo n).yld i H x H' → (gName j) x (wipe σ vs) H' fun σ2 H2 => wipe σ2 vs = wipe σ vs ∧ tt σ2 H2 fun b H3 =>
        if b = true then te σ2 H3 fun y H4 => ∃ acc, H4 D = some (.lst acc) ∧ acc.length < sizeLine ∧ Nx (upd H4 D (.lst (acc ++ [y]))) else Nx H3) := by
  have oD : Off a D := P0.off hD
  refine lc_range (lo := lo) (n := n) (fun i H => ∃ acc, Pool H a (c0 + i * k) ∧ Kp a H1 H ∧ H D = some (.lst acc) ∧ acc.length ≤ i ∧ ok i acc) ⟨[], ?_, skp (same_upd hD), upd_same, Nat.le_refl _, h0⟩ (fun i H hi p => ?_) (fun H p => ?_)
  · rw [Nat.zero_mul]
    exact P0.upd oD
  · obtain ⟨acc, p1, p2, p3, p4, p5⟩ := p
    refine ⟨hw _, turn i H acc hi p1 p2 p5 p4 _ _ (fun y H' q1 q2 q3 => ⟨acc, q2 _ _ p3 oD, szLt (by omega), acc ++ [y], ?_, ?_, upd_same, ?_, q3⟩) (fun H' q1 q2 q3 => ⟨acc, ?_, p2.trans q2, q2 _ _ p3 oD, by omega, q3⟩)⟩
    · rw [Nat.succ_mul, ← Nat.add_assoc]
      exact q1.upd oD
    · exact Kp.mut (p2.trans q2) hD
    · rw [List.length_append]
      show acc.length + 1 ≤ i + 1
      omega
    · rw [Nat.succ_mul, ← Nat.add_assoc]
      exact q1
  · obtain ⟨acc, p1, p2, p3, p4, p5⟩ := p
    exact done H acc p1 p2 p3 p4 p5 oD
/-- over a walked thing, its turns changing nothing that stood -/
theorem lc_rangeS {lo : Int} {n j : Nat} {tt : TT} {te : TE} {vs : List Nat} {σ : L2.St} {H1 : Hp} {D : Addr} {Qd : Hp → Prop} (ok : Nat → List V → Prop)
    (hD : H1 D = none) (hn : n ≤ 100000) (h0 : ok 0 []) (hw : ∀ x, wipe ((wipe σ vs).set j (some x)) vs = wipe σ vs)
    (turn : ∀ (i : Nat) (H : Hp) (acc : List V), i < n → Same H1 H → ok i acc → acc.length ≤ i → ∀ (N1 : V → Hp → Prop) (N2 : Hp → Prop),
      (∀ y H', Same H H' → ok (i + 1) (acc ++ [y]) → N1 y H') → (∀ H', Same H H' → ok (i + 1) acc → N2 H') →
      tt ((wipe σ vs).set j (some (.int (lo + i)))) H fun b H3 => if b = true then te ((wipe σ vs).set j (some (.int (lo + i)))) H3 N1 else N2 H3)
    (done : ∀ (H : Hp) (acc : List V), Same H1 H → H D = some (.lst acc) → acc.length ≤ n → ok n acc → Qd H) :
    ∃ W : Nat → Nat → Hp → Prop, (∃ m, W 0 m (upd H1 D (.lst []))) ∧ ∀ i m H, W i m H →
      ((Itr lo n).stop i H ∧ Qd H) ∨ ((Itr lo n).go i H ∧ ∃ Nx : Hp → Prop, (∀ H', Nx H' → ∃ m', m' < m ∧ W (i + 1) m' H') ∧ ∀ x H', (Itr lo n).yld i H x H' → (gName j) x (wipe σ vs) H' fun σ2 H2 => wipe σ2 vs = wipe σ vs ∧ tt σ2 H2 fun b H3 =>
        if b = true then te σ2 H3 fun y H4 => ∃ acc, H4 D = some (.lst acc) ∧ acc.length < sizeLine ∧ Nx (upd H4 D (.lst (acc ++ [y]))) else Nx H3) := by
  refine lc_range (lo := lo) (n := n) (fun i H => ∃ acc, Same H1 H ∧ H D = some (.lst acc) ∧ acc.length ≤ i ∧ ok i acc) ⟨[], same_upd hD, upd_same, Nat.le_refl _, h0⟩ (fun i H hi p => ?_) (fun H p => ?_)
  · obtain ⟨acc, p2, p3, p4, p5⟩ := p
    refine ⟨hw _, turn i H acc hi p2 p5 p4 _ _ (fun y H' q2 q3 => ⟨acc, q2 _ _ p3, szLt (by omega), acc ++ [y], smut (p2.trans q2) hD, upd_same, ?_, q3⟩) (fun H' q2 q3 => ⟨acc, p2.trans q2, q2 _ _ p3, by omega, q3⟩)⟩
    rw [List.length_append]
    show acc.length + 1 ≤ i + 1
    omega
  · obtain ⟨acc, p2, p3, p4, p5⟩ := p
    exact done H acc p2 p3 p4 p5
theorem lc_listS {a : Addr} {xs : List V} {j : Nat} {tt : TT} {te : TE} {vs : List Nat} {σ : L2.St} {H1 : Hp} {D : Addr} {Qd : Hp → Prop} (ok : Nat → List V → Prop)
    (hx : SqL K H1 a xs) (hD : H1 D = none) (hn : xs.length ≤ 100000) (h0 : ok 0 []) (hw : ∀ x, wipe ((wipe σ vs).set j (some x)) vs = wipe σ vs)
    (turn : ∀ (i : Nat) (x : V) (H : Hp) (acc : List V), xs[i]? = some x → Same H1 H → ok i acc → acc.length ≤ i → ∀ (N1 : V → Hp → Prop) (N2 : Hp → Prop),
      (∀ y H', Same H H' → ok (i + 1) (acc ++ [y]) → N1 y H') → (∀ H', Same H H' → ok (i + 1) acc → N2 H') →
      tt ((wipe σ vs).set j (some x)) H fun b H3 => if b = true then te ((wipe σ vs).set j (some x)) H3 N1 else N2 H3)
    (done : ∀ (H : Hp) (acc : List V), Same H1 H → H D = some (.lst acc) → acc.length ≤ xs.length → ok xs.length acc → Qd H) :
    ∃ W : Nat → Nat → Hp → Prop, (∃ m, W 0 m (upd H1 D (.lst []))) ∧ ∀ i m H, W i m H →
      ((Itl K a).stop i H ∧ Qd H) ∨ ((Itl K a).go i H ∧ ∃ Nx : Hp → Prop, (∀ H', Nx H' → ∃ m', m' < m ∧ W (i + 1) m' H') ∧ ∀ x H', (Itl K a).yld i H x H' → (gName j) x (wipe σ vs) H' fun σ2 H2 => wipe σ2 vs = wipe σ vs ∧ tt σ2 H2 fun b H3 =>
        if b = true then te σ2 H3 fun y H4 => ∃ acc, H4 D = some (.lst acc) ∧ acc.length < sizeLine ∧ Nx (upd H4 D (.lst (acc ++ [y]))) else Nx H3) := by
  refine lc_list (xs := xs) (fun i H => ∃ acc, Same H1 H ∧ H D = some (.lst acc) ∧ acc.length ≤ i ∧ ok i acc) ⟨[], same_upd hD, upd_same, Nat.le_refl _, h0⟩ (fun i H _ p => ?_) (fun i x H hi p => ?_) (fun H p => ?_)
  · obtain ⟨acc, p2, _⟩ := p
    exact p2.seq hx
  · obtain ⟨acc, p2, p3, p4, p5⟩ := p
    have hil : i < xs.length := (List.getElem?_eq_some_iff.mp hi).1
    refine ⟨hw _, turn i x H acc hi p2 p5 p4 _ _ (fun y H' q2 q3 => ⟨acc, q2 _ _ p3, szLt (by omega), acc ++ [y], smut (p2.trans q2) hD, upd_same, ?_, q3⟩) (fun H' q2 q3 => ⟨acc, p2.trans q2, q2 _ _ p3, by omega, q3⟩)⟩
    rw [List.length_append]
    show acc.length + 1 ≤ i + 1
    omega
  · obtain ⟨acc, p2, p3, p4, p5⟩ := p
    exact done H acc p2 p3 p4 p5
theorem lc_tupS {a : Addr} {xs : List V} {j : Nat} {tt : TT} {te : TE} {vs : List Nat} {σ : L2.St} {H1 : Hp} {D : Addr} {Qd : Hp → Prop} (ok : Nat → List V → Prop)
    (hx : SqT K H1 a xs) (hD : H1 D = none) (hn : xs.length ≤ 100000) (h0 : ok 0 []) (hw : ∀ x, wipe ((wipe σ vs).set j (some x)) vs = wipe σ vs)
    (turn : ∀ (i : Nat) (x : V) (H : Hp) (acc : List V), xs[i]? = some x → Same H1 H → ok i acc → acc.length ≤ i → ∀ (N1 : V → Hp → Prop) (N2 : Hp → Prop),
      (∀ y H', Same H H' → ok (i + 1) (acc ++ [y]) → N1 y H') → (∀ H', Same H H' → ok (i + 1) acc → N2 H') →
      tt ((wipe σ vs).set j (some x)) H fun b H3 => if b = true then te ((wipe σ vs).set j (some x)) H3 N1 else N2 H3)
    (done : ∀ (H : Hp) (acc : List V), Same H1 H → H D = some (.lst acc) → acc.length ≤ xs.length → ok xs.length acc → Qd H) :
    ∃ W : Nat → Nat → Hp → Prop, (∃ m, W 0 m (upd H1 D (.lst []))) ∧ ∀ i m H, W i m H →
      ((Itt K a).stop i H ∧ Qd H) ∨ ((Itt K a).go i H ∧ ∃ Nx : Hp → Prop, (∀ H', Nx H' → ∃ m', m' < m ∧ W (i + 1) m' H') ∧ ∀ x H', (Itt K a).yld i H x H' → (gName j) x (wipe σ vs) H' fun σ2 H2 => wipe σ2 vs = wipe σ vs ∧ tt σ2 H2 fun b H3 =>
        if b = true then te σ2 H3 fun y H4 => ∃ acc, H4 D = some (.lst acc) ∧ acc.length < sizeLine ∧ Nx (upd H4 D (.lst (acc ++ [y]))) else Nx H3) := by
  refine lc_tup (xs := xs) (fun i H => ∃ acc, Same H1 H ∧ H D = some (.lst acc) ∧ acc.length ≤ i ∧ ok i acc) ⟨[], same_upd hD, upd_same, Nat.le_refl _, h0⟩ (fun i H _ p => ?_) (fun i x H hi p => ?_) (fun H p => ?_)
  · obtain ⟨acc, p2, _⟩ := p
    exact ssqt p2 hx
  · obtain ⟨acc, p2, p3, p4, p5⟩ := p
    have hil : i < xs.length := (List.getElem?_eq_some_iff.mp hi).1
    refine ⟨hw _, turn i x H acc hi p2 p5 p4 _ _ (fun y H' q2 q3 => ⟨acc, q2 _ _ p3, szLt (by omega), acc ++ [y], smut (p2.trans q2) hD, upd_same, ?_, q3⟩) (fun H' q2 q3 => ⟨acc, p2.trans q2, q2 _ _ p3, by omega, q3⟩)⟩
    rw [List.length_append]
    show acc.length + 1 ≤ i + 1
    omega
  · obtain ⟨acc, p2, p3, p4, p5⟩ := p
    exact done H acc p2 p3 p4 p5
end

/-- what the top leaves of the names that the text reads -/
structure Bi (mg : Str → Option Value) : Prop where
  ValueError : mg "ValueError" = none
  enumerate : mg "enumerate" = none
  range : mg "range" = none
  tuple : mg "tuple" = none
  isinstance : mg "isinstance" = none
  bool : mg "bool" = none
  int : mg "int" = none
  str : mg "str" = none
  all : mg "all" = none
  len : mg "len" = none
  min : mg "min" = none
  list : mg "list" = none

/-! ### _law_pool, _law_draw -/
abbrev s_law_pool : Stmt := topS 36
theorem sc_law_pool : FnScope ["_law_script", "_law_great", "_law_cell"] ["_law_script"] (defScope s_law_pool) := ⟨rfl, rfl, rfl, by decide +kernel, rfl, by decide +kernel, by decide +kernel⟩
abbrev s_law_draw : Stmt := topS 37
theorem sc_law_draw : FnScope ["_law_pool_here", "_law_many", "_law_cell"] ["_law_pool_here", "_law_many"] (defScope s_law_draw) := ⟨rfl, rfl, rfl, by decide +kernel, rfl, by decide +kernel, by decide +kernel⟩
section
variable {P : Program} {w : World} {K : PySem.W.Frag} {mg : Str → Option Value} {base : Heap}
def spPool (K : PySem.W.Frag) : Sp := fun vs H Q _ => ∃ (l : Addr) (ns : List Int), vs = [.ref l] ∧ SqL K H l (ns.map V.int) ∧ ns.length ≤ 63 ∧ ∀ H' a, Same H H' → Pool H' a 0 → Q (.ref a.p) H'
theorem ok_pool {f : Addr} {fd : FuncData} (F : Fun K "_law_pool" "_law_pool" s_law_pool f fd) : FnOk P w K mg base CX0 1 f fd ["_law_script"] (spPool K) := by
  refine F.ok sc_law_pool (fun vs H Q E h => ?_) (fun cdv A outer s H vs Q E hr h => ?_)
  · obtain ⟨l, ns, rfl, _⟩ := h
    rfl
  · obtain ⟨l, ns, rfl, hS, hlen, q⟩ := h
    refine ⟨_, (pss_cons (ps_setLc (i := 1) (own := [("_law_cell", 2)]) (g := gName 2) (by rfl) sc_law_pool.nd rfl rfl (sw_true rfl rfl rfl (by decide +kernel)) (pi_list (pv 0)) (blkOk_by (own := [("_law_cell", 2)]) (N := ["_law_script", "_law_great", "_law_cell"]) (sc := defScope s_law_pool) (by decide +kernel)) (fun _ _ _ _ _ => (pg_name (i := 2) sc_law_pool.nd rfl (.inl rfl))) (fun _ _ _ _ _ => (pts_one (pt_cmpR op_ge (pv 2) (pe_op op_pow pe_int pe_int) (nomark _)))) (fun _ _ _ _ _ => (pv 2)))
      (pss_one (ps_ret (pe_lst (pa_cons (pv 1) (pa_cons (pe_lc (own := [("_law_cell", 2)]) (g := gName 2) rfl sc_law_pool.nd (pi_list (pv 0)) (blkOk_by (own := [("_law_cell", 2)]) (N := ["_law_script", "_law_great", "_law_cell"]) (sc := defScope s_law_pool) (by decide +kernel)) (fun _ _ _ _ _ => (pg_name (i := 2) sc_law_pool.nd rfl (.inl rfl))) (fun _ _ _ _ _ => (pts_one (pt_cmpR op_lt (pv 2) (pe_op op_pow pe_int pe_int) (nomark _)))) (fun _ _ _ _ _ => (pv 2))) (pa_cons pe_int (pa_cons pe_int pa_nil)))))))), ?_⟩
    refine ⟨_, rfl, l, rfl, ⟨_, hS⟩, fun D hD => lc_listS (K := K) (a := l) (xs := ns.map V.int) (fun i acc => ∃ gs : List Int, acc = gs.map V.int) hS hD (by rw [List.length_map]; omega) ⟨[], rfl⟩ (fun _ => rfl) ?_ ?_⟩
    · intro i x H1 acc hx s1 ⟨gs, hg⟩ _ N1 N2 k1 k2
      obtain ⟨z, hz, rfl⟩ := map_get hx
      refine ⟨_, rfl, _, _, rfl, rfl, ⟨by decide, by decide, by decide⟩, _, _, rfl, rfl, _, rfl, ite2 (fun e => ?_) (fun e => ?_)⟩
      · exact ⟨_, rfl, k1 _ _ (Same.refl _) ⟨gs ++ [z], by rw [hg, List.map_append]; rfl⟩⟩
      · exact k2 _ (Same.refl _) ⟨gs, hg⟩
    · intro H1 acc s1 hD1 la ⟨gs, hg⟩
      subst hg
      have hS1 : SqL K H1 l (ns.map V.int) := s1.seq hS
      refine ⟨_, rfl, _, rfl, l, rfl, ⟨_, hS1⟩, fun D2 hD2 => lc_listS (K := K) (a := l) (xs := ns.map V.int) (fun i acc => ∃ gs : List Int, acc = gs.map V.int) hS1 hD2 (by rw [List.length_map]; omega) ⟨[], rfl⟩ (fun _ => rfl) ?_ ?_⟩
      · intro i x H2 acc hx s2 ⟨gs, hg⟩ _ N1 N2 k1 k2
        obtain ⟨z, hz, rfl⟩ := map_get hx
        refine ⟨_, rfl, _, _, rfl, rfl, ⟨by decide, by decide, by decide⟩, _, _, rfl, rfl, _, rfl, ite2 (fun e => ?_) (fun e => ?_)⟩
        · exact ⟨_, rfl, k1 _ _ (Same.refl _) ⟨gs ++ [z], by rw [hg, List.map_append]; rfl⟩⟩
        · exact k2 _ (Same.refl _) ⟨gs, hg⟩
      · intro H2 acc s2 hD2' la2 ⟨ss, hs⟩
        subst hs
        refine ⟨by show 4 ≤ sizeLine; decide, fun p hp => q _ ⟨p, D, D2⟩ ((s1.trans s2).trans (same_upd hp)) ⟨gs, ss, 5, 0, upd_same, ?_, ?_, ?_, ?_, by decide, by decide, by decide, by decide, ?_⟩⟩
        · show upd H2 p _ D = _
          rw [upd_ne (ne_of_none (s2 _ _ hD1) hp)]
          exact s2 _ _ hD1
        · show upd H2 p _ D2 = _
          rw [upd_ne (ne_of_none hD2' hp)]
          exact hD2'
        · rw [List.length_map, List.length_map] at la
          omega
        · rw [List.length_map, List.length_map] at la2
          omega
        · exact (ne_of_none hD1 hD2).symm
def spDraw : Sp := fun vs H Q _ => ∃ (a : PA) (c : Nat) (m : Int), vs = [.ref a.p, .int m] ∧ Pool H a c ∧ c < 1000000 ∧ 0 < m ∧ m < 1073741824 ∧
  ∀ H' r, 0 ≤ r → r < m → Pool H' a (c + 1) → Kp a H H' → Q (.int r) H'
theorem ok_draw {f : Addr} {fd : FuncData} (F : Fun K "_law_draw" "_law_draw" s_law_draw f fd) (T : Bi mg) : FnOk P w K mg base CX0 1 f fd ["_law_pool_here", "_law_many"] spDraw := by
  refine F.ok sc_law_draw (fun vs H Q E h => ?_) (fun cdv A outer s H vs Q E hr h => ?_)
  · obtain ⟨a, c, m, rfl, _⟩ := h
    rfl
  · obtain ⟨⟨p, g, s⟩, c, m, rfl, PP, hc, hm0, hm1, q⟩ := h
    obtain ⟨gs, ss, st, ct, a1, a2, a3, a4, a5, a6, a7, a8, a9, a10⟩ := PP.ex
    have npg : p ≠ g := ne_of a1 a2 (by intro q; have := HO.lst.inj q; cases gs <;> cases this)
    have nps : p ≠ s := ne_of a1 a3 (by intro q; have := HO.lst.inj q; cases ss <;> cases this)
    refine ⟨_, (pss_cons (ps_if (pt_cmpR op_gt (pe_callB call_len_seq (by rfl) T.len PySem.boot_len (pa_cons (pe_ix ix_list (pv 0) pe_int (fun _ _ => rfl)) pa_nil)) pe_int (nomark _))
        (pss_cons (ps_set (i := 2) sc_law_draw.nd rfl (.inl rfl) (pe_ix ix_list (pe_ix ix_list (pv 0) pe_int (fun _ _ => rfl)) pe_int (fun _ _ => rfl)))
        (pss_cons (ps_asg (pe_op op_fdiv (pv 2) (pv 1)) (pg_sub (pe_ix ix_list (pv 0) pe_int (fun _ _ => rfl)) pe_int set_list))
        (pss_cons (ps_if (pt_cmpR op_eq (pe_op op_fdiv (pv 2) (pv 1)) pe_int (nomark _))
          (pss_one (ps_expr (pe_bm PySem.F.plainAttrs_list PySem.F.slot_list_pop PySem.F.type_list_pop mt_popAt (pe_ix ix_list (pv 0) pe_int (fun _ _ => rfl)) (pa_cons pe_int pa_nil))))
          pss_nil)
        (pss_one (ps_ret (pe_op op_mod (pv 2) (pv 1)))))))
        pss_nil)
      (pss_cons (ps_asg (pe_op op_add (pe_ix ix_list (pv 0) pe_int (fun _ _ => rfl)) pe_int) (pg_sub (pv 0) pe_int set_list))
      (pss_cons (ps_set (i := 2) sc_law_draw.nd rfl (.inl rfl) pe_int)
      (pss_cons (ps_if (pt_cmpR op_gt (pe_callB call_len_seq (by rfl) T.len PySem.boot_len (pa_cons (pe_ix ix_list (pv 0) pe_int (fun _ _ => rfl)) pa_nil)) pe_int (nomark _))
        (pss_one (ps_set (i := 2) sc_law_draw.nd rfl (.inl rfl) (pe_ix ix_list (pe_ix ix_list (pv 0) pe_int (fun _ _ => rfl)) (pe_op op_mod (pe_ix ix_list (pv 0) pe_int (fun _ _ => rfl)) (pe_callB call_len_seq (by rfl) T.len PySem.boot_len (pa_cons (pe_ix ix_list (pv 0) pe_int (fun _ _ => rfl)) pa_nil))) (fun _ _ => rfl))))
        pss_nil)
      (pss_cons (ps_set (i := 2) sc_law_draw.nd rfl (.inl rfl) (pe_op op_mul (pe_op op_mod (pv 2) pe_int) (pe_op op_add (pe_op op_mul (pe_ix ix_list (pv 0) pe_int (fun _ _ => rfl)) (pe_ix ix_list (pv 0) pe_int (fun _ _ => rfl))) pe_int)))
      (pss_cons (ps_asg (pe_op op_mod (pe_op op_add (pe_op op_add (pe_op op_mul (pe_ix ix_list (pv 0) pe_int (fun _ _ => rfl)) pe_int) (pv 2)) (pe_op op_mul pe_int (pe_ix ix_list (pv 0) pe_int (fun _ _ => rfl)))) pe_int) (pg_sub (pv 0) pe_int set_list))
      (pss_one (ps_ret (pe_op op_mod (pe_op op_fdiv (pe_op op_mod (pe_op op_pow (pe_ix ix_list (pv 0) pe_int (fun _ _ => rfl)) pe_int) pe_int) pe_int) (pv 1)))))))))), ?_⟩
    -- if len(pool[0]) > 0
    refine ⟨_, rfl, p, _, _, _, rfl, rfl, SqL.of a1, at_of (j := 0) rfl rfl, g, _, rfl, .inl (SqL.of a2), _, _, rfl, rfl, _, rfl, ite2 (fun e => ?_) (fun e => ?_)⟩
    · obtain ⟨z, r, rfl⟩ : ∃ z r, gs = z :: r := by
        cases gs with
        | nil => exact absurd e (by decide)
        | cons z r => exact ⟨z, r, rfl⟩
      refine ⟨_, rfl, p, _, _, _, rfl, rfl, SqL.of a1, at_of (j := 0) rfl rfl, g, _, _, .int z, rfl, rfl, SqL.of a2, at_of (j := 0) rfl rfl, ?_⟩
      have a1' : ∀ o, upd H g o p = some (.lst [.ref g, .ref s, .int st, .int ct]) := fun o => by
        rw [upd_ne npg]
        exact a1
      have a3' : ∀ o, upd H g o s = some (.lst (ss.map V.int)) := fun o => by
        rw [upd_ne a10]
        exact a3
      refine ⟨_, rfl, _, rfl, _, _, rfl, rfl, ⟨hm0, hm1⟩, _, rfl, p, _, _, _, rfl, rfl, SqL.of a1, at_of (j := 0) rfl rfl, g, _, 0, 0, rfl, rfl, a2, ixN0 (by simp), ?_⟩
      refine ⟨_, rfl, _, rfl, _, _, rfl, rfl, ⟨hm0, hm1⟩, rfl, _, rfl, ite2 (fun e0 => ?_) (fun e0 => ?_)⟩
      · refine ⟨_, rfl, p, _, _, _, rfl, rfl, SqL.of (a1' _), at_of (j := 0) rfl rfl, .inl ⟨rfl, _, SqL.of upd_same⟩, g, _, 0, 0, _, rfl, rfl, upd_same, by decide, by decide, six0 (by simp), rfl, ?_⟩
        refine ⟨_, rfl, _, rfl, _, _, rfl, rfl, hm0, ?_⟩
        refine q _ _ (Int.emod_nonneg _ (by omega)) (Int.emod_lt_of_pos _ hm0) ⟨r, ss, st, ct, ?_, ?_, ?_, ?_, a5, a6, a7, a8, by omega, a10⟩ (fun b o hb n => ?_)
        · rw [upd_upd]
          exact a1' _
        · show upd _ g _ g = _
          rw [upd_same]
          rfl
        · rw [upd_upd]
          exact a3' _
        · simp at a4
          omega
        · rw [upd_ne n.2.1, upd_ne n.2.1]
          exact hb
      · refine ⟨_, rfl, _, rfl, _, _, rfl, rfl, hm0, ?_⟩
        refine q _ _ (Int.emod_nonneg _ (by omega)) (Int.emod_lt_of_pos _ hm0) ⟨(z / m) :: r, ss, st, ct, a1' _, ?_, a3' _, ?_, a5, a6, a7, a8, by omega, a10⟩ (fun b o hb n => ?_)
        · show upd _ g _ g = _
          rw [upd_same]
          rfl
        · simpa using a4
        · rw [upd_ne n.2.1]
          exact hb
    · -- pool[3] = pool[3] + 1
      refine ⟨_, rfl, p, _, _, _, rfl, rfl, SqL.of a1, at_of (j := 3) rfl rfl, _, _, rfl, rfl, _, rfl, p, _, 3, 3, rfl, rfl, a1, rfl, ?_⟩
      have w1 : upd H p (.lst [.ref g, .ref s, .int st, .int (ct + 1)]) p = some (.lst [.ref g, .ref s, .int st, .int (ct + 1)]) := upd_same
      have w2 : ∀ o, upd H p o g = some (.lst (gs.map V.int)) := fun o => by
        rw [upd_ne npg.symm]
        exact a2
      have w3 : ∀ o, upd H p o s = some (.lst (ss.map V.int)) := fun o => by
        rw [upd_ne nps.symm]
        exact a3
      -- cell = 0; if len(pool[1]) > 0
      refine ⟨_, rfl, p, _, _, _, rfl, rfl, SqL.of w1, at_of (j := 1) rfl rfl, s, _, rfl, .inl (SqL.of (w3 _)), _, _, rfl, rfl, _, rfl, ite2 (fun e => ?_) (fun e => ?_)⟩
      · have l0 : 0 < ss.length := by
          have := of_decide_eq_true e
          simpa using this
        have l1 : 0 ≤ (ct + 1) % (ss.length : Int) := Int.emod_nonneg _ (by omega)
        have l2 : (ct + 1) % (ss.length : Int) < ss.length := Int.emod_lt_of_pos _ (by omega)
        obtain ⟨j, ej⟩ : ∃ j : Nat, (ct + 1) % (ss.length : Int) = (j : Int) := ⟨_, (Int.toNat_of_nonneg l1).symm⟩
        have hj : j < ss.length := by omega
        have gj : (ss.map V.int)[j]? = some (.int ss[j]) := get_map (List.getElem?_eq_getElem hj)
        refine ⟨_, rfl, p, _, _, _, rfl, rfl, SqL.of w1, at_of (j := 1) rfl rfl, _, rfl, p, _, _, _, rfl, rfl, SqL.of w1, at_of (j := 3) rfl rfl, _, rfl, p, _, _, _, rfl, rfl, SqL.of w1, at_of (j := 1) rfl rfl, s, _, rfl, .inl (SqL.of (w3 _)), _, _, rfl, rfl, (by rw [List.length_map]; omega),
          s, _, _, _, rfl, rfl, SqL.of (w3 _), at_of (by rw [List.length_map]; exact ej) gj, ?_⟩
        generalize ss[j] = y
        refine ⟨_, rfl, _, _, rfl, rfl, (by show (0 : Int) < _; decide), _, rfl, p, _, _, _, rfl, rfl, SqL.of w1, at_of (j := 3) rfl rfl, _, rfl, p, _, _, _, rfl, rfl, SqL.of w1, at_of (j := 3) rfl rfl, _, _, rfl, rfl, .inl ⟨by omega, by omega⟩, _, _, rfl, rfl, _, _, rfl, rfl, .inl ⟨by omega, by omega⟩, ?_⟩
        refine ⟨_, rfl, p, _, _, _, rfl, rfl, SqL.of w1, at_of (j := 2) rfl rfl, _, _, rfl, rfl, .inl ⟨by omega, by omega⟩, _, rfl, _, _, rfl, rfl, _, rfl, p, _, _, _, rfl, rfl, SqL.of w1, at_of (j := 3) rfl rfl, _, _, rfl, rfl, .inl ⟨by omega, by omega⟩, _, _, rfl, rfl, _, _, rfl, rfl, (by show (0 : Int) < _; decide), _, rfl, p, _, 2, 2, rfl, rfl, w1, rfl, ?_⟩
        dsimp only [List.set]
        generalize hz : ((st * 48271 + y % 2147483629 * ((ct + 1) * (ct + 1) + 1) + 97 * (ct + 1)) % 2147483647 : Int) = z
        have hz0 : 0 ≤ z := by omega
        have hz1 : z < 2147483647 := by omega
        have w5 : upd (upd H p (.lst [.ref g, .ref s, .int st, .int (ct + 1)])) p (.lst [.ref g, .ref s, .int z, .int (ct + 1)]) p = some (.lst [.ref g, .ref s, .int z, .int (ct + 1)]) := upd_same
        refine ⟨_, rfl, p, _, _, _, rfl, rfl, SqL.of w5, at_of (j := 2) rfl rfl, _, _, rfl, rfl, ⟨by decide, by decide, by omega⟩, _, _, rfl, rfl, (by show (0 : Int) < _; decide), _, _, rfl, rfl, ⟨by decide, by decide⟩, _, rfl, _, _, rfl, rfl, hm0, ?_⟩
        refine q _ _ (Int.emod_nonneg _ (by omega)) (Int.emod_lt_of_pos _ hm0) ⟨gs, ss, z, ct + 1, w5, ?_, ?_, a4, a5, hz0, hz1, by omega, by omega, a10⟩ (fun b o hb n => ?_)
        · rw [upd_upd]
          exact w2 _
        · rw [upd_upd]
          exact w3 _
        · rw [upd_upd, upd_ne n.1]
          exact hb
      · refine ⟨_, rfl, _, _, rfl, rfl, (by show (0 : Int) < _; decide), _, rfl, p, _, _, _, rfl, rfl, SqL.of w1, at_of (j := 3) rfl rfl, _, rfl, p, _, _, _, rfl, rfl, SqL.of w1, at_of (j := 3) rfl rfl, _, _, rfl, rfl, .inl ⟨by omega, by omega⟩, _, _, rfl, rfl, _, _, rfl, rfl, .inl ⟨by omega, by omega⟩, ?_⟩
        refine ⟨_, rfl, p, _, _, _, rfl, rfl, SqL.of w1, at_of (j := 2) rfl rfl, _, _, rfl, rfl, .inl ⟨by omega, by omega⟩, _, rfl, _, _, rfl, rfl, _, rfl, p, _, _, _, rfl, rfl, SqL.of w1, at_of (j := 3) rfl rfl, _, _, rfl, rfl, .inl ⟨by omega, by omega⟩, _, _, rfl, rfl, _, _, rfl, rfl, (by show (0 : Int) < _; decide), _, rfl, p, _, 2, 2, rfl, rfl, w1, rfl, ?_⟩
        dsimp only [List.set]
        generalize hz : ((st * 48271 + 0 % 2147483629 * ((ct + 1) * (ct + 1) + 1) + 97 * (ct + 1)) % 2147483647 : Int) = z
        have hz0 : 0 ≤ z := by omega
        have hz1 : z < 2147483647 := by omega
        have w5 : upd (upd H p (.lst [.ref g, .ref s, .int st, .int (ct + 1)])) p (.lst [.ref g, .ref s, .int z, .int (ct + 1)]) p = some (.lst [.ref g, .ref s, .int z, .int (ct + 1)]) := upd_same
        refine ⟨_, rfl, p, _, _, _, rfl, rfl, SqL.of w5, at_of (j := 2) rfl rfl, _, _, rfl, rfl, ⟨by decide, by decide, by omega⟩, _, _, rfl, rfl, (by show (0 : Int) < _; decide), _, _, rfl, rfl, ⟨by decide, by decide⟩, _, rfl, _, _, rfl, rfl, hm0, ?_⟩
        refine q _ _ (Int.emod_nonneg _ (by omega)) (Int.emod_lt_of_pos _ hm0) ⟨gs, ss, z, ct + 1, w5, ?_, ?_, a4, a5, hz0, hz1, by omega, by omega, a10⟩ (fun b o hb n => ?_)
        · rw [upd_upd]
          exact w2 _
        · rw [upd_upd]
          exact w3 _
        · rw [upd_upd, upd_ne n.1]
          exact hb
end

def wordsL : List Str := ["yes", "no", "not", "and", "or", "step", "some", "all", "next", "once", "ever", "until", "unless"]
def lettersS : Str := "abcdefghijklmnopqrstuvwxyz"
structure Wd (K : PySem.W.Frag) (mg : Str → Option Value) where
  aW : Addr
  uL : Value
  gWORDS : mg "WORDS" = some (.ref aW)
  rWORDS : RelV (.ref aW) (.ref aW)
  sW : ∀ H, SqT K H aW (wordsL.map V.str)
  gLETTERS : mg "LETTERS" = some uL
  rLETTERS : RelV (.str lettersS) uL
/-- a text that is_name takes -/
structure GoodName (z : Str) : Prop where
  lo : 1 ≤ z.length
  hi : z.length ≤ 8
  nw : z ∉ wordsL
  al : ∀ c ∈ z.cps.toList, c ∈ lettersS.cps.toList
theorem flat_str (xs : List Str) : (xs.map V.str).all flatV = true := by
  rw [List.all_map, List.all_eq_true]
  exact fun _ _ => rfl
theorem flat_int (xs : List Int) : (xs.map V.int).all flatV = true := by
  rw [List.all_map, List.all_eq_true]
  exact fun _ _ => rfl
theorem inV_str (z : Str) (xs : List Str) : inV (.str z) (xs.map V.str) = decide (z ∈ xs) := by
  unfold inV
  rw [List.any_map]
  by_cases h : z ∈ xs
  · rw [decide_eq_true h, List.any_eq_true]
    exact ⟨z, h, by simp [Function.comp, eqV]⟩
  · rw [decide_eq_false h, List.any_eq_false]
    intro y hy q
    exact h (by simp [Function.comp, eqV] at q; rw [← q]; exact hy)
theorem inV_int (z : Int) (xs : List Int) : inV (.int z) (xs.map V.int) = decide (z ∈ xs) := by
  unfold inV
  rw [List.any_map]
  by_cases h : z ∈ xs
  · rw [decide_eq_true h, List.any_eq_true]
    exact ⟨z, h, by simp [Function.comp, eqV]⟩
  · rw [decide_eq_false h, List.any_eq_false]
    intro y hy q
    exact h (by simp [Function.comp, eqV] at q; rw [← q]; exact hy)

/-! ### rising rows -/
/-- a rising row of numbers below many -/
def RiseI (many : Int) (ns : List Int) : Prop := ns.Pairwise (· < ·) ∧ ∀ n ∈ ns, 0 ≤ n ∧ n < many
theorem rise_len {many : Int} {ns : List Int} (h : RiseI many ns) (hm : 0 ≤ many) : (ns.length : Int) ≤ many := by
  have key : ∀ (ns : List Int) (lo : Int), ns.Pairwise (· < ·) → (∀ n ∈ ns, lo ≤ n ∧ n < many) → lo ≤ many → (ns.length : Int) ≤ many - lo := by
    intro ns
    induction ns with
    | nil =>
      intro lo _ _ h
      show (0 : Int) ≤ _
      omega
    | cons x r ih =>
      intro lo hp hb hl
      obtain ⟨p1, p2⟩ := List.pairwise_cons.mp hp
      have b1 := hb x List.mem_cons_self
      have := ih (x + 1) p2 (fun n hn => ⟨by have := p1 n hn; omega, (hb n (List.mem_cons_of_mem _ hn)).2⟩) (by omega)
      rw [List.length_cons]
      omega
  have := key ns 0 h.1 h.2 hm
  omega
/-- a rising row of names -/
def RiseS (zs : List Str) : Prop := zs.Pairwise (fun x y => x.cps.toList < y.cps.toList) ∧ ∀ z ∈ zs, GoodName z

/-! ### fairtrees.machines, on what it takes -/
structure MachAt (K : PySem.W.Frag) (H : Hp) (m : Addr) (steps : List (List Int)) (marks : List (List Str)) : Prop where
  ex : ∃ (s k : Addr) (sa ka : List Addr), SqT K H m [.ref s, .ref k] ∧ SqT K H s (sa.map V.ref) ∧ SqT K H k (ka.map V.ref) ∧
    Each (fun a ns => SqT K H a (ns.map V.int)) sa steps ∧ Each (fun a zs => SqT K H a (zs.map V.str)) ka marks
structure GoodMach (steps : List (List Int)) (marks : List (List Str)) : Prop where
  len : steps.length = marks.length
  lo : 1 ≤ steps.length
  hi : steps.length ≤ 40
  st : ∀ r ∈ steps, RiseI steps.length r
  mr : ∀ r ∈ marks, RiseS r ∧ r.length ≤ 8
theorem MachAt.imm {K : PySem.W.Frag} {H H' : Hp} {m : Addr} {steps : List (List Int)} {marks : List (List Str)} (M : MachAt K H m steps marks) (e : Imm H H') : MachAt K H' m steps marks := by
  obtain ⟨s, k, sa, ka, h1, h2, h3, h4, h5⟩ := M.ex
  exact ⟨s, k, sa, ka, e.sq h1, e.sq h2, e.sq h3, h4.imp fun _ _ h => e.sq h, h5.imp fun _ _ h => e.sq h⟩
structure WishAt (K : PySem.W.Frag) (H : Hp) (t : Addr) (ws : List (Str × Str)) : Prop where
  ex : ∃ wa : List Addr, SqT K H t (wa.map V.ref) ∧ Each (fun a (x : Str × Str) => SqT K H a [.str x.1, .str x.2]) wa ws
theorem WishAt.imm {K : PySem.W.Frag} {H H' : Hp} {t : Addr} {ws : List (Str × Str)} (M : WishAt K H t ws) (e : Imm H H') : WishAt K H' t ws := by
  obtain ⟨wa, h1, h2⟩ := M.ex
  exact ⟨wa, e.sq h1, h2.imp fun _ _ h => e.sq h⟩
theorem ref_get {as : List Addr} {i : Nat} {v : V} (h : (as.map V.ref)[i]? = some v) : ∃ a, as[i]? = some a ∧ v = .ref a := map_get h
theorem dec_str (x y : Str) : decide (V.str x = V.str y) = decide (x = y) := by
  by_cases h : x = y
  · rw [decide_eq_true h, decide_eq_true (by rw [h])]
  · rw [decide_eq_false h, decide_eq_false fun q => h (V.str.inj q)]
theorem dec_int (x y : Int) : decide (V.int x = V.int y) = decide (x = y) := by
  by_cases h : x = y
  · rw [decide_eq_true h, decide_eq_true (by rw [h])]
  · rw [decide_eq_false h, decide_eq_false fun q => h (V.int.inj q)]
/-- the standings that bear a name -/
def bearersOf (marks : List (List Str)) (z : Str) (n : Nat) : List Int := ((List.range n).filter fun j => decide (z = Str.ofString "") || decide (z ∈ marks.getD j [])).map Int.ofNat
theorem bearersOf_yes {marks : List (List Str)} {z : Str} {n : Nat} (h : (decide (z = Str.ofString "") || decide (z ∈ marks.getD n [])) = true) : bearersOf marks z (n + 1) = bearersOf marks z n ++ [(n : Int)] := by
  unfold bearersOf
  rw [List.range_succ, List.filter_append, List.map_append, List.filter_cons, if_pos h] <;> rfl
theorem bearersOf_no {marks : List (List Str)} {z : Str} {n : Nat} (h : (decide (z = Str.ofString "") || decide (z ∈ marks.getD n [])) = false) : bearersOf marks z (n + 1) = bearersOf marks z n := by
  unfold bearersOf
  rw [List.range_succ, List.filter_append, List.map_append, List.filter_cons, if_neg (by rw [h]; decide)]
  show _ ++ [] = _
  rw [List.append_nil]

/-! ### _law_name, _law_names -/
theorem letters_eq : lettersS.cps.toList = List.range' 97 26 := by decide +kernel
theorem letters_at {j : Nat} (hj : j < 26) : lettersS.cps.toList[j]? = some (97 + j) := by
  rw [letters_eq, List.getElem?_range' hj]
  simp
theorem letters_len : lettersS.length ≤ 100000 := by
  show lettersS.cps.size ≤ 100000
  rw [← Array.length_toList, letters_eq]
  simp
theorem letters_mem {j : Nat} (hj : j < 26) : 97 + j ∈ lettersS.cps.toList := List.mem_of_getElem? (letters_at hj)
def Alpha (z : Str) : Prop := ∀ c ∈ z.cps.toList, c ∈ lettersS.cps.toList
theorem app_list (x y : Str) : (x ++ y).cps.toList = x.cps.toList ++ y.cps.toList := by
  show (x.cps ++ y.cps).toList = _
  rw [Array.toList_append]
theorem app_len (x y : Str) : (x ++ y).length = x.length + y.length := by
  show (x ++ y).cps.size = x.cps.size + y.cps.size
  rw [← Array.length_toList, ← Array.length_toList, ← Array.length_toList, app_list, List.length_append]
theorem alpha_app {x : Str} {j : Nat} (h : Alpha x) (hj : j < 26) : Alpha (x ++ ⟨#[97 + j]⟩) := fun c hc => by
  rw [app_list] at hc
  rcases List.mem_append.mp hc with hc | hc
  · exact h c hc
  · have e : c = 97 + j := by simpa using hc
    rw [e]
    exact letters_mem hj
theorem pigeon {α : Type} [BEq α] [LawfulBEq α] : ∀ (l m : List α), l.Nodup → (∀ x ∈ l, x ∈ m) → l.length ≤ m.length
  | [], _, _, _ => Nat.zero_le _
  | x :: r, m, nd, h => by
    obtain ⟨n1, n2⟩ := List.nodup_cons.mp nd
    have hx := h x List.mem_cons_self
    have := pigeon r (m.erase x) n2 fun y hy => (List.mem_erase_of_ne (fun q => n1 (by rw [← q]; exact hy))).mpr (h y (List.mem_cons_of_mem _ hy))
    rw [List.length_erase_of_mem hx] at this
    have : 0 < m.length := List.length_pos_of_mem hx
    rw [List.length_cons]
    omega
/-- what the loop tries at its k-th turn -/
def cand (nm : Str) (last k : Nat) : Str := nm ++ ⟨#[97 + (last + k) % 26]⟩
theorem cand_inj {nm : Str} {last j k : Nat} (hj : j < 26) (hk : k < 26) (h : cand nm last j = cand nm last k) : j = k := by
  have e : (cand nm last j).cps.toList = (cand nm last k).cps.toList := by rw [h]
  unfold cand at e
  rw [app_list, app_list] at e
  have e2 := List.append_cancel_left e
  simp at e2
  omega
theorem cand_some {nm : Str} {last : Nat} {words taken : List Str} (hw : words.length + taken.length < 26) (h : ∀ j, j < 26 → cand nm last j ∈ words ∨ cand nm last j ∈ taken) : False := by
  have nd : ((List.range 26).map (cand nm last)).Nodup := by
    refine List.pairwise_map.mpr ((List.pairwise_lt_range (n := 26)).imp_of_mem fun ha hb hab e => ?_)
    have := cand_inj (List.mem_range.mp ha) (List.mem_range.mp hb) e
    omega
  have := pigeon _ (words ++ taken) nd fun x hx => by
    obtain ⟨j, hj, rfl⟩ := List.mem_map.mp hx
    exact List.mem_append.mpr (h j (List.mem_range.mp hj))
  rw [List.length_map, List.length_range, List.length_append] at this
  omega
abbrev s_law_name : Stmt := topS 38
theorem sc_law_name : FnScope ["_law_pool_here", "_law_start", "_law_taken", "_law_letters", "_law_name_here", "_law_k", "_law_last", "_law_words", "_law_found"] ["_law_pool_here", "_law_start", "_law_taken"] (defScope s_law_name) := ⟨rfl, rfl, rfl, by decide +kernel, rfl, by decide +kernel, by decide +kernel⟩
abbrev s_law_names : Stmt := topS 39
theorem sc_law_names : FnScope ["_law_pool_here", "_law_many", "_law_letters", "_law_start", "_law_k", "_law_names_here"] ["_law_pool_here", "_law_many"] (defScope s_law_names) := ⟨rfl, rfl, rfl, by decide +kernel, rfl, by decide +kernel, by decide +kernel⟩
section
variable {P : Program} {w : World} {K : PySem.W.Frag} {mg : Str → Option Value} {base : Heap}
def spLName : Sp := fun vs H Q _ => ∃ (a : PA) (c : Nat) (start : Str) (t : Addr) (taken : List Str), vs = [.ref a.p, .str start, .ref t] ∧ Pool H a c ∧ c < 900000 ∧ H t = some (.lst (taken.map V.str)) ∧ Off a t ∧ Alpha start ∧ start.length ≤ 4 ∧ taken.length ≤ 12 ∧
  ∀ H' z, GoodName z → z ∉ taken → Pool H' a (c + 5) → Kp a H H' → Q (.str z) H'
theorem ok_lname {f : Addr} {fd : FuncData} (F : Fun K "_law_name" "_law_name" s_law_name f fd) (T : Bi mg) (c_law_draw : Cal P w K mg base 1 "_law_draw" ["_law_pool_here", "_law_many"] spDraw) : FnOk P w K mg base CX0 2 f fd ["_law_pool_here", "_law_start", "_law_taken"] spLName := by
  refine F.ok sc_law_name (fun vs H Q E h => ?_) (fun cdv A outer s H vs Q E hr h => ?_)
  · obtain ⟨a, c, start, t, taken, rfl, _⟩ := h
    rfl
  · obtain ⟨a, c, start, t, taken, rfl, PP, hc, ht, ot, al, sl, tl, q⟩ := h
    refine ⟨_, (pss_cons (ps_set (i := 3) sc_law_name.nd rfl (.inl rfl) pe_str)
      (pss_cons (ps_set (i := 4) sc_law_name.nd rfl (.inl rfl) (pv 1))
      (pss_cons (ps_for PassesOwn.never rfl (pi_range1 (by rfl) T.range (pa_cons (pe_call c_law_draw.G hr (by rfl) c_law_draw.g c_law_draw.kp c_law_draw.b .nil pass0 (pa_cons (pv 0) (pa_cons pe_int pa_nil))) pa_nil)) (pg_name (i := 5) sc_law_name.nd rfl (.inl rfl))
        (pss_one (ps_set (i := 4) sc_law_name.nd rfl (.inl rfl) (pe_op op_add_str (pv 4) (pe_ix ix_str (pv 3) (pe_call c_law_draw.G hr (by rfl) c_law_draw.g c_law_draw.kp c_law_draw.b .nil pass0 (pa_cons (pv 0) (pa_cons pe_int pa_nil))) (fun _ _ => rfl))))))
      (pss_cons (ps_set (i := 6) sc_law_name.nd rfl (.inl rfl) (pe_call c_law_draw.G hr (by rfl) c_law_draw.g c_law_draw.kp c_law_draw.b .nil pass0 (pa_cons (pv 0) (pa_cons pe_int pa_nil))))
      (pss_cons (ps_set (i := 7) sc_law_name.nd rfl (.inl rfl) (pe_lst (pa_cons pe_str (pa_cons pe_str (pa_cons pe_str (pa_cons pe_str (pa_cons pe_str (pa_cons pe_str (pa_cons pe_str (pa_cons pe_str (pa_cons pe_str (pa_cons pe_str (pa_cons pe_str (pa_cons pe_str (pa_cons pe_str pa_nil)))))))))))))))
      (pss_cons (ps_for PassesOwn.never rfl (pi_range1 (by rfl) T.range (pa_cons pe_int pa_nil)) (pg_name (i := 5) sc_law_name.nd rfl (.inl rfl))
        (pss_cons (ps_set (i := 8) sc_law_name.nd rfl (.inl rfl) (pe_op op_add_str (pv 4) (pe_ix ix_str (pv 3) (pe_op op_mod (pe_op op_add (pv 6) (pv 5)) pe_int) (fun _ _ => rfl))))
        (pss_one (ps_if (PW.pt (pw_and (pt_cmpR op_notIn_seq (pv 8) (pv 7) (by rfl)) (pw_and1 (pt_cmpR op_notIn_seq (pv 8) (pv 2) (by rfl)))))
          (pss_one (ps_ret (pv 8)))
          pss_nil))))
      (pss_one (ps_ret (pe_op op_add_str (pv 4) pe_str))))))))), ?_⟩
    -- for k in range(draw(pool, 4))
    refine ⟨_, rfl, _, rfl, a, c, 4, rfl, PP, by omega, by decide, by decide, fun H1 r r0 r1 P1 k1 => ⟨r, rfl, by omega, by omega, for_range (lo := 0) (n := r.toNat) (fun i σ H' => ∃ nm y,
      σ = [some (.ref a.p), some (.str start), some (.ref t), some (.str lettersS), some (.str nm), y, none, none, none] ∧ Alpha nm ∧ nm.length = start.length + i ∧ Pool H' a (c + 1 + i) ∧ Kp a H H')
      ⟨start, none, rfl, al, rfl, P1, k1⟩ ?_ ?_⟩⟩
    · rintro i σ H2 hi ⟨nm, y, rfl, an, ln, P2, k2⟩
      refine ⟨_, rfl, _, rfl, _, rfl, a, _, 26, rfl, P2, by omega, by decide, by decide, fun H3 r' r0' r1' P3 k3 => ?_⟩
      obtain ⟨j, rfl⟩ : ∃ j : Nat, r' = (j : Int) := ⟨r'.toNat, by omega⟩
      have hj : j < 26 := by omega
      refine ⟨lettersS, _, 97 + j, rfl, rfl, szOk letters_len, atI_nat (letters_at hj), nm, _, rfl, rfl, ?_, ?_⟩
      · show nm.length + 1 ≤ sizeLine
        exact szOk (by omega)
      · refine ⟨nm ++ ⟨#[97 + j]⟩, _, rfl, alpha_app an hj, ?_, ?_, k2.trans k3⟩
        · rw [app_len, ln]
          rfl
        · exact P3
    · rintro σ H2 ⟨nm, y, rfl, an, ln, P2, k2⟩
      -- last = draw(pool, 26); words
      refine ⟨_, rfl, a, _, 26, rfl, P2, by omega, by decide, by decide, fun H3 r' r0' r1' P3 k3 => ?_⟩
      obtain ⟨last, rfl⟩ : ∃ j : Nat, r' = (j : Int) := ⟨r'.toNat, by omega⟩
      refine ⟨by show 13 ≤ sizeLine; decide, fun l hl => ?_⟩
      have hl2 : upd H3 l (.lst (wordsL.map V.str)) l = some (.lst (wordsL.map V.str)) := upd_same
      have ht3 : H3 t = some (.lst (taken.map V.str)) := (k2.trans k3) _ _ ht ot
      have ht4 : ∀ o, upd H3 l o t = some (.lst (taken.map V.str)) := fun o => by
        rw [upd_ne (ne_of_none ht3 hl)]
        exact ht3
      refine ⟨26, rfl, by decide, by decide, for_range (lo := 0) (n := 26) (fun i σ H' => ∃ y z,
        σ = [some (.ref a.p), some (.str start), some (.ref t), some (.str lettersS), some (.str nm), y, some (.int last), some (.ref l), z] ∧ H' = upd H3 l (.lst (wordsL.map V.str)) ∧ ∀ j, j < i → cand nm last j ∈ wordsL ∨ cand nm last j ∈ taken)
        ⟨_, _, rfl, rfl, fun j hj => absurd hj (Nat.not_lt_zero _)⟩ ?_ ?_⟩
      · rintro i σ H' hi ⟨y', z, rfl, rfl, all⟩
        have hm : (last + i) % 26 < 26 := Nat.mod_lt _ (by decide)
        have em : ((last : Int) + (0 + (i : Int))) % 26 = (((last + i) % 26 : Nat) : Int) := by omega
        refine ⟨_, rfl, _, rfl, _, rfl, _, rfl, _, _, rfl, rfl, _, _, rfl, rfl, (by show (0 : Int) < _; decide), lettersS, _, 97 + (last + i) % 26, rfl, rfl, szOk letters_len, (by
          show atI _ (((last : Int) + (0 + (i : Int))) % 26) = _
          rw [em]
          exact atI_nat (letters_at hm)), nm, _, rfl, rfl, ?_, ?_⟩
        · show nm.length + 1 ≤ sizeLine
          exact szOk (by omega)
        · refine ⟨_, rfl, _, rfl, l, _, rfl, .inl (SqL.of hl2), rfl, flat_str _, _, rfl, ?_⟩
          rw [inV_str]
          refine ite2 (fun e => ?_) (fun e => ?_)
          · refine ⟨_, rfl, _, rfl, t, _, rfl, .inl (SqL.of (ht4 _)), rfl, flat_str _, _, rfl, ?_⟩
            rw [inV_str]
            refine ite2 (fun e2 => ?_) (fun e2 => ?_)
            · have n1 : cand nm last i ∉ wordsL := notdec e
              have n2 : cand nm last i ∉ taken := notdec e2
              have lc : (cand nm last i).length = nm.length + 1 := by
                unfold cand
                rw [app_len]
                rfl
              refine ⟨_, rfl, q _ (cand nm last i) ⟨by omega, by omega, n1, alpha_app an hm⟩ n2 ((P3.upd (P3.off hl)).mono (by omega)) ((k2.trans k3).mut ((k2.trans k3).free hl (P3.off hl)))⟩
            · refine ⟨_, _, rfl, rfl, fun j hj => ?_⟩
              by_cases h : j < i
              · exact all j h
              · have e3 : j = i := by omega
                rw [e3]
                exact .inr (dec_of e2)
          · refine iteF ⟨_, _, rfl, rfl, fun j hj => ?_⟩
            by_cases h : j < i
            · exact all j h
            · have e3 : j = i := by omega
              rw [e3]
              exact .inl (dec_of e)
      · rintro σ H' ⟨y', z, rfl, rfl, all⟩
        exact (cand_some (words := wordsL) (by show 13 + taken.length < 26; omega) all).elim
def spLNames : Sp := fun vs H Q _ => ∃ (a : PA) (c : Nat) (n : Nat), vs = [.ref a.p, .int n] ∧ Pool H a c ∧ c < 800000 ∧ n ≤ 12 ∧
  ∀ (H' : Hp) (l : Addr) (zs : List Str), Pool H' a (c + 5 + n * 5) → Kp a H H' → H' l = some (.lst (zs.map V.str)) → Off a l → zs.Nodup → (∀ z ∈ zs, GoodName z) → zs.length = n → Q (.ref l) H'
theorem ok_lnames {f : Addr} {fd : FuncData} (F : Fun K "_law_names" "_law_names" s_law_names f fd) (T : Bi mg) (c_law_draw : Cal P w K mg base 1 "_law_draw" ["_law_pool_here", "_law_many"] spDraw) (c_law_name : Cal P w K mg base 2 "_law_name" ["_law_pool_here", "_law_start", "_law_taken"] spLName) :
    FnOk P w K mg base CX0 3 f fd ["_law_pool_here", "_law_many"] spLNames := by
  refine F.ok sc_law_names (fun vs H Q E h => ?_) (fun cdv A outer s H vs Q E hr h => ?_)
  · obtain ⟨a, c, n, rfl, _⟩ := h
    rfl
  · obtain ⟨a, c, n, rfl, PP, hc, hn, q⟩ := h
    refine ⟨_, (pss_cons (ps_set (i := 2) sc_law_names.nd rfl (.inl rfl) pe_str)
      (pss_cons (ps_set (i := 3) sc_law_names.nd rfl (.inl rfl) pe_str)
      (pss_cons (ps_for PassesOwn.never rfl (pi_range1 (by rfl) T.range (pa_cons (pe_ix ix_list (pe_lst (pa_cons pe_int (pa_cons pe_int (pa_cons pe_int (pa_cons pe_int pa_nil))))) (pe_call c_law_draw.G (hr.mono (by decide)) (by rfl) c_law_draw.g c_law_draw.kp c_law_draw.b .nil pass0 (pa_cons (pv 0) (pa_cons pe_int pa_nil))) (fun _ _ => rfl)) pa_nil)) (pg_name (i := 4) sc_law_names.nd rfl (.inl rfl))
        (pss_one (ps_set (i := 3) sc_law_names.nd rfl (.inl rfl) (pe_op op_add_str (pv 3) (pe_ix ix_str (pv 2) (pe_call c_law_draw.G (hr.mono (by decide)) (by rfl) c_law_draw.g c_law_draw.kp c_law_draw.b .nil pass0 (pa_cons (pv 0) (pa_cons pe_int pa_nil))) (fun _ _ => rfl))))))
      (pss_cons (ps_set (i := 5) sc_law_names.nd rfl (.inl rfl) (pe_lst pa_nil))
      (pss_cons (ps_for PassesOwn.never rfl (pi_range1 (by rfl) T.range (pa_cons (pv 1) pa_nil)) (pg_name (i := 4) sc_law_names.nd rfl (.inl rfl))
        (pss_one (ps_expr (pe_bm PySem.F.plainAttrs_list PySem.F.slot_list_append PySem.F.type_list_append mt_append (pv 5) (pa_cons (pe_call c_law_name.G hr (by rfl) c_law_name.g c_law_name.kp c_law_name.b .nil pass0 (pa_cons (pv 0) (pa_cons (pv 3) (pa_cons (pv 5) pa_nil)))) pa_nil)))))
      (pss_one (ps_ret (pv 5)))))))), ?_⟩
    refine ⟨by show 4 ≤ sizeLine; decide, fun d hd => ⟨_, rfl, a, c, 4, rfl, PP.upd (PP.off hd), by omega, by decide, by decide, fun H1 r r0 r1 P1 k1 => ?_⟩⟩
    have k1' : Kp a H H1 := (skp (same_upd hd)).trans k1
    have hd1 : H1 d = some (.lst [.int 0, .int 0, .int 1, .int 4]) := k1 _ _ upd_same (PP.off hd)
    obtain ⟨v, v0, v1, hv⟩ : ∃ v : Int, 0 ≤ v ∧ v ≤ 4 ∧ atI [V.int 0, .int 0, .int 1, .int 4] r = some (.int v) := by
      have : r = 0 ∨ r = 1 ∨ r = 2 ∨ r = 3 := by omega
      rcases this with rfl | rfl | rfl | rfl
      · exact ⟨0, by decide, by decide, rfl⟩
      · exact ⟨0, by decide, by decide, rfl⟩
      · exact ⟨1, by decide, by decide, rfl⟩
      · exact ⟨4, by decide, by decide, rfl⟩
    refine ⟨d, _, r, .int v, rfl, rfl, SqL.of hd1, hv, v, rfl, by omega, by omega, for_range (lo := 0) (n := v.toNat) (fun i σ H' => ∃ nm y,
      σ = [some (.ref a.p), some (.int n), some (.str lettersS), some (.str nm), y, none] ∧ Alpha nm ∧ nm.length = i ∧ Pool H' a (c + 1 + i) ∧ Kp a H H')
      ⟨Str.ofString "", none, rfl, (fun c hc => absurd hc (by rw [show (Str.ofString "").cps.toList = [] by decide +kernel]; exact List.not_mem_nil)), (by decide +kernel), P1, k1'⟩ ?_ ?_⟩
    · rintro i σ H2 hi ⟨nm, y, rfl, an, ln, P2, k2⟩
      refine ⟨_, rfl, _, rfl, _, rfl, a, _, 26, rfl, P2, by omega, by decide, by decide, fun H3 r' r0' r1' P3 k3 => ?_⟩
      obtain ⟨j, rfl⟩ : ∃ j : Nat, r' = (j : Int) := ⟨r'.toNat, by omega⟩
      have hj : j < 26 := by omega
      refine ⟨lettersS, _, 97 + j, rfl, rfl, szOk letters_len, atI_nat (letters_at hj), nm, _, rfl, rfl, ?_, ?_⟩
      · show nm.length + 1 ≤ sizeLine
        exact szOk (by omega)
      · refine ⟨nm ++ ⟨#[97 + j]⟩, _, rfl, alpha_app an hj, ?_, P3, k2.trans k3⟩
        rw [app_len, ln]
        rfl
    · rintro σ H2 ⟨nm, y, rfl, an, ln, P2, k2⟩
      refine ⟨Nat.zero_le _, fun l hl => ?_⟩
      have ol := P2.off hl
      have hl0 := k2.free hl ol
      refine ⟨_, rfl, n, rfl, by omega, by omega, for_range (lo := 0) (n := (n : Int).toNat) (fun i σ H' => ∃ (zs : List Str) (y : Option V),
        σ = [some (.ref a.p), some (.int n), some (.str lettersS), some (.str nm), y, some (.ref l)] ∧ zs.length = i ∧ zs.Nodup ∧ (∀ z ∈ zs, GoodName z) ∧ H' l = some (.lst (zs.map V.str)) ∧ Pool H' a (c + 5 + i * 5) ∧ Kp a H H')
        ⟨[], _, rfl, rfl, List.nodup_nil, (fun z hz => absurd hz List.not_mem_nil), upd_same, ((P2.mono (by omega)).upd ol), k2.mut hl0⟩ ?_ ?_⟩
      · rintro i σ H3 hi ⟨zs, y', rfl, lz, nz, gz, hz, P3, k3⟩
        refine ⟨_, rfl, .inl ⟨rfl, _, SqL.of hz⟩, _, rfl, _, rfl, _, rfl, a, _, nm, l, zs, rfl, P3, by omega, hz, ol, an, by omega, by omega, fun H4 z g4 n4 P4 k4 => ?_⟩
        have hz4 := k4 _ _ hz ol
        refine ⟨l, _, _, rfl, rfl, hz4, szLt (by rw [List.length_map]; omega), zs ++ [z], _, rfl, ?_, ?_, ?_, ?_, ?_, ?_⟩
        · rw [List.length_append, lz]
          rfl
        · rw [List.nodup_append]
          refine ⟨nz, by simp, fun x hx y hy e => ?_⟩
          have : y = z := by simpa using hy
          rw [this] at e
          exact n4 (by rw [← e]; exact hx)
        · intro x hx
          rcases List.mem_append.mp hx with hx | hx
          · exact gz x hx
          · have : x = z := by simpa using hx
            rw [this]
            exact g4
        · rw [upd_same, List.map_append]
          rfl
        · rw [show c + 5 + (i + 1) * 5 = c + 5 + i * 5 + 5 by omega]
          exact P4.upd ol
        · exact (k3.trans k4).mut hl0
      · rintro σ H3 ⟨zs, y', rfl, lz, nz, gz, hz, P3, k3⟩
        rw [Int.toNat_natCast] at lz P3
        exact ⟨_, rfl, q _ l zs P3 k3 hz ol nz gz lz⟩
end

/-! ### t[::-1], t a tuple -/
namespace BkT
open PySem PySem.Spec PyProof.Rows L2
section
variable {prog : Program} {w : World} {A : Around} {E : Value → Shared → Prop} {s : Shared}
theorem fm {α β : Type} {f g : α → Option β} : ∀ {l : List α}, (∀ x ∈ l, f x = g x) → l.filterMap f = l.filterMap g
  | [], _ => rfl
  | x :: r, h => by
    rw [List.filterMap_cons, List.filterMap_cons, h x List.mem_cons_self, fm fun y hy => h y (List.mem_cons_of_mem _ hy)]
theorem adj (n : Nat) : Builtin.Slice.sliceAdjust none none (-1) (n : Int) = ((n : Int) - 1, -1) := by
  unfold Builtin.Slice.sliceAdjust
  simp
theorem plc (n : Nat) : Builtin.Slice.slicePlaces ((n : Int) - 1) (-1) (-1) = n := by
  unfold Builtin.Slice.slicePlaces
  simp
  omega
theorem picked (xs : Array Value) : (List.range xs.size).filterMap (fun (k : Nat) => xs[(((xs.size : Int) - 1) + (k : Int) * (-1)).toNat]?) = xs.toList.reverse := by
  have h : (List.range xs.size).filterMap (fun (k : Nat) => xs[(((xs.size : Int) - 1) + (k : Int) * (-1)).toNat]?) = (List.range xs.size).filterMap ((fun j => xs[j]?) ∘ fun k => xs.size - 1 - k) := by
    refine fm fun k hk => ?_
    have := List.mem_range.mp hk
    show xs[(((xs.size : Int) - 1) + (k : Int) * (-1)).toNat]? = xs[xs.size - 1 - k]?
    congr 1
    omega
  rw [h, ← List.filterMap_map, show ((List.range xs.size).map fun k => xs.size - 1 - k) = (List.range xs.size).reverse from by
    refine List.ext_getElem (by simp) fun i h1 h2 => ?_
    simp, List.filterMap_reverse]
  congr 1
  have := pick_run xs 0 xs.size
  rw [List.filterMap_map, List.drop_zero, List.take_of_length_le (by simp)] at this
  rw [← this]
  refine fm fun k _ => ?_
  show xs[k]? = xs[0 + k]?
  rw [Nat.zero_add]
theorem got {t sl : Addr} {items : Array Value} {vk : Value} {Q : Value → Shared → Prop} (ht : IsTup s.heap t items) (hs : s.heap.IsSliceOf sl .none .none vk) (pk : IsPart vk (some (-1)))
    (h : Q (.ref s.heap.objs.size) { s with heap := s.heap.push { cls := .type "tuple", data := .seq items.toList.reverse.toArray } }) (hz : items.size ≤ sizeLine) : wpAny (model prog w) A (getItem (.ref t) (.ref sl)) Q E s := by
  obtain ⟨os, hos, hcs, hds⟩ := id hs
  have hTs : s.TypeIs (.ref sl) "slice" := ⟨os, hos, hcs⟩
  cases pk with
  | int i tk =>
  unfold getItem
  try with_reducible refine wpAny_holding ?_
  first | refine wpAny_bind (wpAny_pure ?_) | skip
  refine wpAny_bind (wpAny_sequenceKey ht.typeIs (by decide) ?_)
  refine wpAny_bind (wpAny_callSpecial?_slot (name := Str.ofString "__getitem__") ht.typeIs PyProof.Rows.slot_tuple_getitem
    (wpAny_call_entry PyProof.Rows.slot_tuple_getitem ht.typeIs entry_tuple_getitem ?_ (args_tuple_getitem _ _)))
  change wpAny _ _ (Builtin.Tuple.tupleItemsOf (.ref t) >>= _) _ _ s
  refine wpAny_bind (tupleItemsOf_ ht (wpAny_bind (wpAny_typeOf hTs ?_)))
  rw [if_pos (by decide)]
  refine wpAny_bind ?_
  unfold Builtin.Slice.sliceApplied Builtin.Slice.sliceFields
  refine wpAny_bind (wpAny_bind (wpAny_field hos hds (x := .none) rfl (wpAny_bind (wpAny_field hos hds (x := .none) rfl (wpAny_bind (wpAny_field hos hds (x := .int (-1) tk) rfl (wpAny_pure ?_)))))))
  refine wpAny_bind (slicePart_int ?_)
  change wpAny _ _ (if ((-1 : Int) == 0) = true then _ else _) _ _ s
  rw [if_neg (by decide)]
  refine wpAny_bind (slicePart_none (wpAny_bind (slicePart_none (wpAny_bind (wpAny_pure ?_)))))
  change wpAny _ _ (match Builtin.Slice.sliceAdjust none none (-1) (items.size : Int) with | (lo, hi) => pure (lo, (-1 : Int), Builtin.Slice.slicePlaces lo hi (-1))) _ _ s
  rw [adj]
  change wpAny _ _ (pure (((items.size : Int) - 1), (-1 : Int), Builtin.Slice.slicePlaces ((items.size : Int) - 1) (-1) (-1))) _ _ s
  rw [plc]
  refine wpAny_pure ?_
  change wpAny _ _ (if (((items.size : Int) - 1) == 0 && (-1 : Int) == 1 && items.size == items.size) = true then _ else _) _ _ s
  rw [if_neg (by simp)]
  rw [picked]
  refine wpAny_bind ?_
  exact wpAny_newObj_type (wpAny_pure ⟨_, rfl, wpAny_pure h⟩) (by change items.toList.reverse.toArray.size ≤ sizeLine; simp; exact hz)
end
section
variable {X : Cx} {e : Expr} {te : TE} {tk : TO} {pos p2 p4 p5 : Pos} {j : Nat}
def tBack (K : PySem.W.Frag) (te : TE) (tk : TO) : TE := fun σ H Q => te σ H fun x H1 => tk σ H1 fun o H2 => o = some (-1) ∧ ∃ a xs, x = .ref a ∧ SqT K H2 a xs ∧ ∀ p, H2 p = none → Q (.ref p) (L2.upd H2 p (.tup xs.reverse))
theorem pe_back (he : PE X e te) (hk : PO X (some (.UnaryOp .USub (.Constant (.int 1) j p4) p5)) tk) : PE X (.Subscript e (.Slice none none (some (.UnaryOp .USub (.Constant (.int 1) j p4) p5)) p2) pos) (tBack X.K te tk) := by
  refine ⟨fun pins s σ H Q I h => ?_⟩
  refine Subscript_ (L2.thn (he.run pins s σ H _ I h) fun v s1 y => ?_)
  obtain ⟨x, H1, I1, r1, q1⟩ := y
  refine wpAny_Slice ?_
  rw [evalPart_none]
  refine wpAny_pure (wpAny_pure (L2.thn (hk.run pins s1 σ H1 _ I1 q1) fun vk s2 z => ?_))
  obtain ⟨o, H2, I2, pk, rfl, a, xs, rfl, hx, q⟩ := z
  cases r1
  have I3 : Inv X pins σ H2 { s2 with heap := s2.heap.push { cls := .type "slice", data := .fields #[.none, .none, vk] } } := I2.kept (t' := s2.toks) fun b ob q => Heap.get?_push_of_some _ q
  obtain ⟨its, r, ht, hz⟩ := I3.tuple hx
  have hl : its.toArray.size = xs.length := by rw [List.size_toArray]; exact r.length.symm
  change wpAny (model X.prog X.w) X.A (subscriptTail e (.Slice none none (some (.UnaryOp .USub (.Constant (.int 1) j p4) p5)) p2) (.ref a) (.ref s2.heap.objs.size)) (EP X pins σ Q) X.xe { s2 with heap := s2.heap.push { cls := .type "slice", data := .fields #[.none, .none, vk] } }
  refine tail_any (ops := [.ref a, .ref s2.heap.objs.size]) ht.typeIs PyProof.Rows.slot_tuple_getitem.lookup (got ht (Heap.IsSliceOf.new ..) pk ?_ (by rw [hl]; exact hz)) (by with_unfolding_all rfl)
  refine ⟨.ref _, _, I3.laid (o := .tup xs.reverse) (t' := s2.toks) (fun b ob q => Heap.get?_push_of_some _ q) (Nat.le_refl _) ?_, rfl, q _ (I3.hok.fresh (Nat.le_refl _))⟩
  refine ⟨by rw [List.length_reverse]; exact hz, its.reverse, ?_, IsTup.new _ _⟩
  exact r.reverse
end
end BkT

/-! ### tuple * k; tuple(d); a, b, *c = t -/
namespace R22
open PySem PySem.Spec PyProof.Rows L2
def rRepA (K : PySem.W.Frag) : R2 := fun x y H Q => ∃ l k xs, x = .ref l ∧ y = .int k ∧ SqT K H l xs ∧ xs ≠ [] ∧ 1 ≤ k ∧ k ≤ 1000 ∧ xs.length ≤ 1000 ∧ ((k = 1 ∧ Q (.ref l) H) ∨ (1 < k ∧ ∀ p, H p = none → Q (.ref p) (L2.upd H p (.tup (List.replicate k.toNat xs).flatten))))
theorem mul1 (l : Addr) (o : Obj) (items : Array Value) (n : Nat) (hc : o.cls = .type "tuple") (hd : o.data = .seq items n) (u : Tok) :
    Meets (Builtin.«tuple.__mul__» ⟨[.ref l, .int 1 u], []⟩) (fun _ R s => s.heap.get? l = some o ∧ R (.ok (.ret (.ref l))) s) :=
  .of_wp fun prog w A R s hyp => by
    obtain ⟨hp, gg, dd, tt, oo⟩ := s
    obtain ⟨at1, hyp⟩ := hyp
    have ix := AutoSeq1.idx_int
    obtain ⟨cls, di, da, sl⟩ := o
    simp only at hc hd
    subst hc hd
    wp_walk using AutoSeq1.wpAny_loadPart' at1
    exact ⟨_, rfl, hyp⟩
section
variable {X : Cx}
theorem op_repA : OpR X (binaryOp .Mult) (rRepA X.K) := by
  intro pins s σ H x y v u Q I rx ry hyp
  obtain ⟨l, k, xs, e1, e2, hT, hne, b1, b2, hz, hyp⟩ := hyp
  rcases hyp with ⟨k1, q⟩ | ⟨k1, q⟩
  · subst e1 e2 k1
    cases rx
    obtain ⟨t, rfl⟩ := ry
    obtain ⟨its, rv, ⟨ob, at1, hc, n, hd⟩, _⟩ := I.tuple hT
    have at2 := at1
    have ty : s.TypeIs (.ref l) "tuple" := ⟨ob, at1, hc⟩
    obtain ⟨cls, di, da, sl⟩ := ob
    simp only at hc hd
    subst hc hd
    exact wpAny_binaryOp_repeat_ref (T := "tuple") (U := "int") (by decide) ty (fun s' => typeIs_int s' 1 t) noFill_tuple_mul F.fills_int_mul F.slot_int_rmul repeat_tuple F.slot_int_index.lookup
      (call_meets F.slot_int_rmul (typeIs_int s 1 t) F.entry_int_rmul (F.args_int_rmul_2 _ _) (int_rmul_tuple 1 t l its.toArray n di sl)
        ⟨at1, rfl, ty, call_meets F.slot_tuple_mul ty F.entry_tuple_mul (F.args_tuple_mul_2 _ _) (mul1 l _ _ _ rfl rfl t) ⟨at2, .ref l, H, I, rfl, q⟩⟩)
  · exact op_repT pins s σ H x y v u Q I rx ry ⟨l, k, xs, e1, e2, hT, hne, by omega, b2, hz, q⟩
end
/-! tuple(d) -/
section
variable {prog : Program} {w : World} {A : Around} {E : Value → Shared → Prop} {s : Shared} {T : String} {r d : Addr} {n : Nat} {P : Nat → Value → Prop} {OK : Heap → Prop}
theorem collected {Q : List Value → Shared → Prop} (src : PySem.W.KdlSrc prog w T r d n P OK) (hh : A.handled = none) (ok : OK s.heap) (small : n ≤ sizeLine)
    (k : ∀ (g : Heap) (tk : Nat) (acc : Array Value), (∀ b o, s.heap.get? b = some o → g.get? b = some o) → ItemsOf P acc n → Q acc.toList { s with heap := g, toks := tk }) :
    wpAny (model prog w) A (collect (.ref r)) Q E s := by
  obtain ⟨l1, l2⟩ := src.there _ ok
  unfold collect
  refine wpAny_bind (wpAny_runValue (codeAny_builtin F.entry_proto_collect ?_)); rw [Around.under_plainId F.plain_proto_collect _]
  change wpAny _ A.in1 (newList [] >>= fun x => again (.builtin "list.__iadd__" ⟨[x, .ref r], []⟩)) _ _ s
  refine wpAny_bind (wpAny_newObj_type (wpAny_pure ⟨plainId_quiet F.plain_list_iadd _, codeAny_builtin F.entry_list_iadd ?_⟩))
  rw [Around.under_plainId F.plain_list_iadd _]
  change wpAny _ A.in1 (Builtin.List.listExtendWith (.ref s.heap.objs.size) (.ref r) (.ref s.heap.objs.size)) _ _ _
  have old : ∀ b o, s.heap.get? b = some o → (s.heap.push { cls := .type "list", data := .seq ([] : List Value).toArray }).get? b = some o := fun b o q => Heap.get?_push_of_some _ q
  have fin : ∀ (g : Heap) (tk : Nat) (acc : Array Value) (c : Nat), (∀ b o, s.heap.get? b = some o → g.get? b = some o) → ItemsOf P acc n → g.get? s.heap.objs.size = some { cls := .type "list", dict := none, data := .seq acc c, slots := #[] } →
      wpAny (model prog w) A (do match (← load s.heap.objs.size).data with | Data.seq xs _ => pure xs.toList | _ => unsupported "internal:collect") Q E { s with heap := g, toks := tk } := fun g tk acc c kp ac at1 => wpAny_bind (wpAny_load at1 (wpAny_pure (k g tk acc kp ac)))
  refine wpAny_mono (PySem.W.kdl_extend (A := A) (R := fun f s2 => ∃ g tk acc c, f = .ok (.ret (.ref s.heap.objs.size)) ∧ s2 = { s with heap := g, toks := tk } ∧ (∀ b o, s.heap.get? b = some o → g.get? b = some o) ∧ ItemsOf P acc n ∧ g.get? s.heap.objs.size = some { cls := .type "list", dict := none, data := .seq acc c, slots := #[] })
    (s := { s with heap := s.heap.push { cls := .type "list", data := .seq ([] : List Value).toArray } }) src hh (src.keep _ _ ok fun b _ o q => old b o q) s.heap.objs.size (Nat.ne_of_gt l1) (Nat.ne_of_gt l2) _ 0 (Heap.get?_push_size _ rfl)
    (fun g tk acc c kp at1 ac => ⟨g, tk, acc, c, rfl, rfl, fun b o q => kp b o (Nat.ne_of_lt (Heap.lt_size q)) (old b o q), ac, at1⟩) small) (fun f s2 x => ?_) (fun e s2 x => ?_)
  · cases f with
    | done f =>
      obtain ⟨g, tk, acc, c, e1, rfl, kp, ac, at1⟩ := x
      cases e1
      exact fin g tk acc c kp ac at1
    | again c' =>
      refine ⟨x.1, codeAny_mono x.2 fun f' s3 y => ?_⟩
      obtain ⟨g, tk, acc, c, rfl, rfl, kp, ac, at1⟩ := y
      exact fin g tk acc c kp ac at1
  · obtain ⟨g, tk, acc, c, e1, _⟩ := x
    cases e1
theorem newed {Q : Value → Shared → Prop} (src : PySem.W.KdlSrc prog w T r d n P OK) (hh : A.handled = none) (ok : OK s.heap) (small : n ≤ sizeLine)
    (k : ∀ (g : Heap) (tk : Nat) (acc : Array Value), (∀ b o, s.heap.get? b = some o → g.get? b = some o) → ItemsOf P acc n → Q (.ref g.objs.size) { s with heap := g.push { cls := .type "tuple", data := .seq acc }, toks := tk }) :
    codeAny (model prog w) A (.call (.builtin "tuple.__new__") ⟨[.type "tuple", .ref r], []⟩) (wants Q E) s := by
  refine codeAny_of_tree ?_
  change wpAny _ A.in1 (do checkBuiltinCall "tuple.__new__" ⟨[.type "tuple", .ref r], []⟩; again (.builtin "tuple.__new__" ⟨[.type "tuple", .ref r], []⟩)) _ _ s
  refine wpAny_bind (wpAny_of_eq (F.newCall_tuple_1 _) (wpAny_pure ⟨plainId_quiet F.plain_tuple_new _, codeAny_builtin F.entry_tuple_new ?_⟩)); rw [Around.under_plainId F.plain_tuple_new _]
  have u1 := sub_tuple_self
  have u2 := init_tuple_lookup
  have u3 := madeHere_tuple
  have u4 : s.TypeIs (.ref r) T := src.type _ ok
  have u5 : A.in1.handled = none := hh
  have u6 := src.notTuple
  wp_walk using wpAny_typeOf u4, collected (A := A.in1) src u5 ok small
  intro g tk acc kp ac
  change wpAny _ _ (Builtin.Tuple.tupleExact acc.toList.toArray >>= fun x => ret x) _ _ _
  unfold Builtin.Tuple.tupleExact
  have ea : acc.toList.toArray = acc := by simp
  rw [ea]
  exact wpAny_bind (wpAny_newObj_type (wpAny_pure (k g tk acc kp ac)) (by change acc.size ≤ sizeLine; rw [ac.1]; exact small))
theorem told {Q : Value → Shared → Prop} (src : PySem.W.KdlSrc prog w T r d n P OK) (hh : A.handled = none) (ok : OK s.heap) (small : n ≤ sizeLine)
    (k : ∀ (g : Heap) (tk : Nat) (acc : Array Value), (∀ b o, s.heap.get? b = some o → g.get? b = some o) → ItemsOf P acc n → Q (.ref g.objs.size) { s with heap := g.push { cls := .type "tuple", data := .seq acc }, toks := tk }) :
    wpAny (model prog w) A (call (.type "tuple") [.ref r]) Q E s :=
  callType_codes (Q₁ := fun x s1 => s1.TypeIs x "tuple" ∧ Q x s1) F.called_tuple (F.typeCall_tuple_1 _) F.entry_object_init (newed (A := A.in1) src hh ok small fun g tk acc kp ac => ⟨⟨_, Heap.get?_push_size _ rfl, rfl⟩, k g tk acc kp ac⟩)
    fun x s1 y => ⟨y.1, F.args_object_init_2 x _, object_init_meets F.called_tuple.init.lookup F.called_tuple.made (by decide) prog w A.in1 _ s1 ⟨y.1, rfl, y.2⟩⟩
end
section
variable {X : Cx}
def rTupD : List V → Hp → VK → Prop := fun xs H Q => ∃ a kvs, xs = [.ref a] ∧ H a = some (.dK kvs) ∧ ∀ b, H b = none → Q (.ref b) (L2.upd H b (.tup (kvs.map fun z => kV z.1)))
theorem call_tuple_dict (hc : X.calm = true) : CallR X (.type "tuple") rTupD := by
  intro pins s σ H xs us Q I r hyp
  obtain ⟨a, kvs, e, hk, q⟩ := hyp
  subst e
  obtain ⟨u, eu, rx⟩ := vals1 r
  subst eu
  obtain rfl : u = Value.ref a := rx
  obtain ⟨small, lo, vs, rk, hd⟩ := (show ObjOk X.prog X.w H s.heap a (.dK kvs) from I.hok a _ hk)
  obtain ⟨ep, hat⟩ := hd.dictAt
  have ln : kvs.length = vs.length := Paired.length rk
  refine told (PySem.W.kdl_dict (knd := mixKind X.prog X.w) (kvs := vs) (ep := ep) lo) (I.ok.hd hc) hat (by rw [← ln]; exact small) fun g tk acc kp ac => ?_
  have I1 : Inv X pins σ H { s with heap := g, toks := tk } := I.kept kp
  refine ⟨.ref g.objs.size, L2.upd H g.objs.size (.tup (kvs.map fun z => kV z.1)), I1.laid (t' := tk) (fun b o q => Heap.get?_push_of_some _ q) (Nat.le_refl _) (show ObjOk X.prog X.w _ _ _ (.tup (kvs.map fun z => kV z.1)) from ⟨?_, acc.toList, ?_, ?_⟩), rfl, q _ (I1.hok.fresh (Nat.le_refl _))⟩
  · rw [List.length_map]
    exact small
  · have el : acc.toList.length = acc.size := by simp
    refine vals_of_at (by rw [List.length_map, el, ac.1, ln]) fun j x v h1 h2 => ?_
    obtain ⟨k, y, hky, hi⟩ := ac.2 j v (by rw [← Array.getElem?_toList]; exact h2)
    have e1 : (kvs.map fun z => kV z.1)[j]? = some (kV k) := by
      have := congrArg (fun l => (l[j]?).map kV) (KV.keys rk)
      simpa [List.getElem?_map, Option.map_map, Function.comp_def, hky] using this
    rw [e1] at h1
    cases h1
    exact keyIs_rel hi
  · rw [Array.toArray_toList]
    exact IsTup.new _ _
end
/-! a, .., *c = a tuple -/
theorem walk_from {prog : Program} {w : World} {A : Around} (hh : A.handled = none) (I ax : Addr) (hne : ax ≠ I) (items : Array Value) (k : Nat) (hk : k ≤ items.size) :
    Walks prog w A I [I, ax] [I] (items.size - k) (fun i v => items[k + i]? = some v) (fun i h => h.IsTupleIter I ax (k + i) ∧ h.IsTuple ax items) :=
  let W := Walks.tuple (prog := prog) (w := w) hh I ax hne items
  ⟨W.sub, fun i => W.frame (k + i), fun i s Q E hi st hQ => W.item (k + i) s Q E (by omega) st hQ,
    fun s Q E st hQ => W.done s Q E (by rw [show k + (items.size - k) = items.size by omega] at st; exact st) hQ, fun i => W.self (k + i)⟩
section
variable {prog : Program} {w : World} {A : Around} {E : Value → Shared → Prop} {s : Shared}
theorem items_star {t : Addr} {items : Array Value} {k : Nat} {Q : List Value → Shared → Prop} (hh : A.handled = none) (ht : IsTup s.heap t items) (hk : k ≤ items.size) (hz : items.size ≤ sizeLine)
    (hQ : ∀ (h' : Heap) (tk : Nat), (∀ b o, s.heap.get? b = some o → h'.get? b = some o) →
      Q (items.toList.take k ++ [.ref h'.objs.size]) { s with heap := h'.push { cls := .type "list", data := .seq (items.toList.drop k).toArray }, toks := tk }) :
    wpAny (model prog w) A (unpackItems (.ref t) (k + 1) (some k)) Q E s := by
  have hlt : t ≠ s.heap.objs.size := Nat.ne_of_lt ht.lt
  unfold unpackItems
  refine wpAny_bind ?_
  unfold notIterableAtAll
  refine wpAny_bind (wpAny_specialOf ht.typeIs slot_tuple_iter.lookup (wpAny_pure ?_))
  simp only [Bool.false_eq_true, if_false]
  refine wpAny_bind (wpAny_holding (iter_tuple ht ?_))
  refine wpAny_bind (wpAny_holding (draw_tuple hlt k 0 _ _ ⟨_, Heap.get?_push_size _ rfl, rfl, rfl⟩ (ht.push _) (by omega) fun g hit hs => ?_))
  rw [List.drop_zero, if_neg (by simp; omega)]
  have ht1 : IsTup g t items := (ht.push _).extBut hs.extBut hlt
  have l1 : s.heap.objs.size < g.objs.size := by obtain ⟨o, e, _⟩ := hit; exact Heap.lt_size e
  have l2 : t < g.objs.size := ht1.lt
  have hit1 : g.IsTupleIter s.heap.objs.size t (k + 0) := by rw [Nat.add_zero]; rw [Nat.zero_add] at hit; exact hit
  refine wpAny_bind (wpAny_holding (wpAny_collect_iter (T := "tuple_iterator") (.inr (.inr (.inr rfl))) (walk_from (A := A.in1) hh s.heap.objs.size t hlt items k hk).toS
    (fun _ _ st => let ⟨o, ho, hc, _⟩ := st.1; ⟨o, ho, hc⟩) ⟨hit1, ht1⟩ (fun b hb => ?_) (by simp) (fun s' acc hm ha => ?_) (by omega)))
  · simp only [List.mem_cons, List.not_mem_nil, or_false] at hb
    rcases hb with rfl | rfl
    · exact l1
    · exact l2
  · have ea : acc.toList = items.toList.drop k := by
      refine List.ext_getElem? fun j => ?_
      rw [List.getElem?_drop]
      by_cases hj : j < acc.size
      · have := ha.2 j acc[j] (by simp [hj])
        rw [Array.getElem?_toList, Array.getElem?_toList, this]
        simp [hj]
      · have h1 := ha.1
        rw [List.getElem?_eq_none (by simp; omega), List.getElem?_eq_none (by simp; omega)]
    rw [ea]
    have e0 : k + 1 - 1 - k = 0 := by omega
    simp only [e0, Nat.not_lt_zero, if_false, Nat.sub_zero]
    rw [List.take_of_length_le (Nat.le_refl _), List.drop_of_length_le (Nat.le_refl _)]
    refine wpAny_bind (wpAny_newObj_type (wpAny_pure ?_) (by change (items.toList.drop k).toArray.size ≤ sizeLine; simp; omega))
    obtain ⟨g1, gg, dd, tt, oo⟩ := s'
    obtain ⟨m1, m2, m3, m4, m5⟩ := hm
    simp only at m1 m2 m3 m4 m5 ⊢
    subst m2 m3 m4
    rw [List.append_nil]
    exact hQ g1 tt fun b o e => m1 b o (by simp; exact Nat.ne_of_lt (Heap.lt_size e)) (hs.extBut b o (Nat.ne_of_lt (Heap.lt_size e)) (Heap.get?_push_of_some _ e))
end
section
variable {X : Cx} {pos : Pos}
/-- (a, .., *c) = a tuple, k plain targets ahead of the last -/
def gStar (K : PySem.W.Frag) (k : Nat) (t : TGs) : TG := fun v σ H Q => ∃ a xs, v = .ref a ∧ SqT K H a xs ∧ k ≤ xs.length ∧ ∀ p, H p = none → t (xs.take k ++ [.ref p]) σ (L2.upd H p (.lst (xs.drop k))) Q
theorem pgs_star {e : Expr} {p : Pos} {t : TG} (h1 : PG X e t) (hs : (assignEach [.Starred e p] X.env).map (·.2) = [assign e X.env] := by rfl) : PGs X [.Starred e p] (gCons t gNil) := by
  refine ⟨fun pins s σ H vs us Q I r h => ?_⟩
  obtain ⟨v, vr, e1, h⟩ := h
  subst e1
  cases r with
  | cons r rr =>
    rw [hs]
    refine assignInOrder_cons (L2.thn (h1.run pins s σ H _ _ _ I r h) fun _ s1 y => ?_)
    obtain ⟨σ1, H1, I1, n1, q1⟩ := y
    subst n1
    cases rr
    exact assignInOrder_nil ⟨σ1, H1, I1, q1⟩
theorem pg_star {es : List Expr} {j k : Nat} {t : TGs} (hc : X.calm = true) (h : PGs X es t)
    (hn : (assignEach es X.env).length = k + 1 := by rfl) (hst : (assignEach es X.env).findIdx? (·.1) = some k := by rfl) : PG X (.Tuple es j pos) (gStar X.K k t) := by
  refine ⟨fun pins s σ H v u Q I r hw => ?_⟩
  obtain ⟨a, xs, e1, hq, hl, hw⟩ := hw
  subst e1
  cases r
  obtain ⟨its, rv, ht, hz⟩ := I.tuple hq
  rw [assign_Tuple]
  refine wpAny_bind (wpAny_standAt ?_)
  unfold unpack
  rw [hn, hst]
  refine wpAny_bind (wpAny_holding (items_star (I.ok.hd hc) ht (by have := rv.length; simp at *; omega) (by have := rv.length; simp at *; omega) fun h' tk kp => ?_))
  have I1 : Inv X pins σ H { s with heap := h', toks := tk } := I.kept kp
  have I2 := I1.laid (t' := tk) (h' := h'.push { cls := .type "list", data := .seq (its.drop k).toArray }) (fun b o q => Heap.get?_push_of_some _ q) (Nat.le_refl _) (show ObjOk X.prog X.w (L2.upd H h'.objs.size (.lst (xs.drop k))) _ h'.objs.size (.lst (xs.drop k)) from ⟨by rw [List.length_drop]; have := rv.length; simp at *; omega, its.drop k, _, rv.drop k, Heap.get?_push_size _ rfl⟩)
  refine h.run pins _ σ _ _ _ Q I2 ?_ (hw _ (I1.hok.fresh (Nat.le_refl _)))
  exact (rv.take k).append (.cons rfl .nil)
end
end R22

/-! ### cut, joined, repeated tuples -/
/-! what a cut, a joined, a repeated tuple tells, new or not -/
section
variable {K : PySem.W.Frag} {H : Hp}
theorem catQ {a b : Addr} {xs ys : List V} {Q : V → Hp → Prop} (ha : SqT K H a xs) (hb : SqT K H b ys) (q : ∀ c H', Same H H' → SqT K H' c (xs ++ ys) → Q (.ref c) H') :
    (xs = [] → Q (.ref b) H) ∧ (xs ≠ [] → ys = [] → Q (.ref a) H) ∧ (xs ≠ [] → ys ≠ [] → ∀ p, H p = none → Q (.ref p) (L2.upd H p (.tup (xs ++ ys)))) :=
  ⟨fun e => q b H (Same.refl _) (by rw [e]; exact hb), fun _ e => q a H (Same.refl _) (by rw [e, List.append_nil]; exact ha), fun _ _ p hp => q p _ (same_upd hp) (SqT.of upd_same)⟩
theorem slQ {a : Addr} {xs : List V} {lo hi : Option Int} {Q : V → Hp → Prop} (ha : SqT K H a xs) (q : ∀ c H', Same H H' → SqT K H' c (cutV xs lo hi) → Q (.ref c) H') :
    (HT.sIx xs.length 0 lo = 0 ∧ HT.sIx xs.length xs.length hi = xs.length → Q (.ref a) H) ∧ (¬ (HT.sIx xs.length 0 lo = 0 ∧ HT.sIx xs.length xs.length hi = xs.length) → ∀ p, H p = none → Q (.ref p) (L2.upd H p (.tup (cutV xs lo hi)))) :=
  ⟨fun e => q a H (Same.refl _) (by unfold cutV; rw [e.1, e.2, Nat.sub_zero, List.drop_zero, List.take_of_length_le (Nat.le_refl _)]; exact ha), fun _ p hp => q p _ (same_upd hp) (SqT.of upd_same)⟩
theorem repQ {a : Addr} {k : Int} {xs : List V} {Q : V → Hp → Prop} (ha : SqT K H a xs) (h1 : 1 ≤ k) (q : ∀ c H', Same H H' → SqT K H' c (List.replicate k.toNat xs).flatten → Q (.ref c) H') :
    (k = 1 ∧ Q (.ref a) H) ∨ (1 < k ∧ ∀ p, H p = none → Q (.ref p) (L2.upd H p (.tup (List.replicate k.toNat xs).flatten))) := by
  by_cases e : k = 1
  · subst e
    exact .inl ⟨rfl, q a H (Same.refl _) (by simpa using ha)⟩
  · exact .inr ⟨by omega, fun p hp => q p _ (same_upd hp) (SqT.of upd_same)⟩
variable {X : Cx}
def rCatQ (K : PySem.W.Frag) : R2 := fun x y H Q => ∃ a b xs ys, x = .ref a ∧ y = .ref b ∧ SqT K H a xs ∧ SqT K H b ys ∧ xs.length + ys.length ≤ sizeLine ∧ ∀ c H', Same H H' → SqT K H' c (xs ++ ys) → Q (.ref c) H'
theorem op_catQ : OpR X (binaryOp .Add) (rCatQ X.K) := fun pins s σ H x y v u Q I rx ry ⟨a, b, xs, ys, h1, h2, h3, h4, h5, q⟩ => op_catA pins s σ H x y v u Q I rx ry ⟨a, b, xs, ys, h1, h2, h3, h4, h5, catQ h3 h4 q⟩
def rSlQ (K : PySem.W.Frag) : V → Option Int → Option Int → Hp → VK → Prop := fun x lo hi H Q => ∃ a xs, x = .ref a ∧ SqT K H a xs ∧ ∀ c H', Same H H' → SqT K H' c (cutV xs lo hi) → Q (.ref c) H'
theorem sl_tupQ : SlR X (rSlQ X.K) := fun pins s σ H x v vl vu lo hi sl Q I rx hs pl pu ⟨a, xs, h1, h2, q⟩ => sl_tupA pins s σ H x v vl vu lo hi sl Q I rx hs pl pu ⟨a, xs, h1, h2, slQ h2 q⟩
def rRepQ (K : PySem.W.Frag) : R2 := fun x y H Q => ∃ l k xs, x = .ref l ∧ y = .int k ∧ SqT K H l xs ∧ xs ≠ [] ∧ 1 ≤ k ∧ k ≤ 1000 ∧ xs.length ≤ 1000 ∧ ∀ c H', Same H H' → SqT K H' c (List.replicate k.toNat xs).flatten → Q (.ref c) H'
theorem op_repQ : OpR X (binaryOp .Mult) (rRepQ X.K) := fun pins s σ H x y v u Q I rx ry ⟨a, k, xs, h1, h2, h3, h4, h5, h6, h7, q⟩ => R22.op_repA pins s σ H x y v u Q I rx ry ⟨a, k, xs, h1, h2, h3, h4, h5, h6, h7, repQ h3 h5 q⟩
end

/-! ### things of any kind -/
inductive Th where
  | non
  | bl (b : Bool)
  | int (i : Int)
  | str (x : Str)
  | tup (ts : List Th)
  | lst
  | dic
mutual
/-- the value v is such a thing; no tuple of it is longer than N -/
inductive TAt (N : Nat) (K : PySem.W.Frag) (H : Hp) : V → Th → Prop where
  | non : TAt N K H .non .non
  | bl (b : Bool) : TAt N K H (.bl b) (.bl b)
  | int (i : Int) : TAt N K H (.int i) (.int i)
  | str (x : Str) (h : x.length ≤ 100) (c : ∀ c ∈ x.cps.toList, c < 1114112) : TAt N K H (.str x) (.str x)
  | tup {a : Addr} {xs : List V} {ts : List Th} (h : SqT K H a xs) (l : xs.length ≤ N) (t : TAll N K H xs ts) : TAt N K H (.ref a) (.tup ts)
  | lst {a : Addr} {xs : List V} (h : H a = some (.lst xs)) : TAt N K H (.ref a) .lst
  | dic {a : Addr} {kvs : List (Key × V)} (h : H a = some (.dK kvs)) : TAt N K H (.ref a) .dic
inductive TAll (N : Nat) (K : PySem.W.Frag) (H : Hp) : List V → List Th → Prop where
  | nil : TAll N K H [] []
  | cons {v : V} {vs : List V} {t : Th} {ts : List Th} (h : TAt N K H v t) (r : TAll N K H vs ts) : TAll N K H (v :: vs) (t :: ts)
end
section
variable {K : PySem.W.Frag} {H H' : Hp} {N N' : Nat}
theorem TAll.len : ∀ {vs : List V} {ts : List Th}, TAll N K H vs ts → vs.length = ts.length
  | _, _, .nil => rfl
  | _, _, .cons _ r => by rw [List.length_cons, List.length_cons, r.len]
theorem TAll.get : ∀ {vs : List V} {ts : List Th} {i : Nat} {v : V}, TAll N K H vs ts → vs[i]? = some v → ∃ t, ts[i]? = some t ∧ TAt N K H v t
  | _, _, _, _, .nil, h => by simp at h
  | _, _, 0, _, .cons (t := t) x _, h => by
    have e := Option.some.inj h
    subst e
    exact ⟨t, rfl, x⟩
  | _, _, i + 1, _, .cons _ r, h => by
    obtain ⟨t, h1, h2⟩ := r.get (i := i) (by simpa using h)
    exact ⟨t, by simpa using h1, h2⟩
theorem TAll.mem {vs : List V} {ts : List Th} (a : TAll N K H vs ts) {v : V} (h : v ∈ vs) : ∃ t, TAt N K H v t := by
  obtain ⟨i, hi⟩ := List.mem_iff_getElem?.mp h
  obtain ⟨t, _, x⟩ := a.get hi
  exact ⟨t, x⟩
theorem TAll.of : ∀ {vs : List V}, (∀ v ∈ vs, ∃ t, TAt N K H v t) → ∃ ts, TAll N K H vs ts
  | [], _ => ⟨[], .nil⟩
  | v :: vs, h => by
    obtain ⟨t, x⟩ := h v List.mem_cons_self
    obtain ⟨ts, r⟩ := TAll.of (vs := vs) fun y hy => h y (List.mem_cons_of_mem _ hy)
    exact ⟨t :: ts, .cons x r⟩
/-- a tuple of things is a thing -/
theorem TAt.mk {a : Addr} {xs : List V} (h : SqT K H a xs) (l : xs.length ≤ N) (all : ∀ v ∈ xs, ∃ t, TAt N K H v t) : ∃ t, TAt N K H (.ref a) t := by
  obtain ⟨ts, r⟩ := TAll.of all
  exact ⟨.tup ts, .tup h l r⟩
mutual
theorem TAt.keep (hN : N ≤ N') (e1 : ∀ a xs, SqT K H a xs → SqT K H' a xs) (e2 : ∀ a xs, H a = some (.lst xs) → ∃ ys, H' a = some (.lst ys)) (e3 : ∀ a kvs, H a = some (.dK kvs) → H' a = some (.dK kvs)) : ∀ {v : V} {t : Th}, TAt N K H v t → TAt N' K H' v t
  | _, _, .non => .non
  | _, _, .bl b => .bl b
  | _, _, .int i => .int i
  | _, _, .str x h c => .str x h c
  | _, _, .tup h l t => .tup (e1 _ _ h) (Nat.le_trans l hN) (TAll.keep hN e1 e2 e3 t)
  | _, _, .lst h => .lst (e2 _ _ h).choose_spec
  | _, _, .dic h => .dic (e3 _ _ h)
theorem TAll.keep (hN : N ≤ N') (e1 : ∀ a xs, SqT K H a xs → SqT K H' a xs) (e2 : ∀ a xs, H a = some (.lst xs) → ∃ ys, H' a = some (.lst ys)) (e3 : ∀ a kvs, H a = some (.dK kvs) → H' a = some (.dK kvs)) : ∀ {vs : List V} {ts : List Th}, TAll N K H vs ts → TAll N' K H' vs ts
  | _, _, .nil => .nil
  | _, _, .cons x r => .cons (TAt.keep hN e1 e2 e3 x) (TAll.keep hN e1 e2 e3 r)
end
theorem TAt.more (hN : N ≤ N') {v : V} {t : Th} (x : TAt N K H v t) : TAt N' K H v t := x.keep hN (fun _ _ h => h) (fun _ xs h => ⟨xs, h⟩) (fun _ _ h => h)
theorem TAt.same (s : Same H H') {v : V} {t : Th} (x : TAt N K H v t) : TAt N K H' v t := x.keep (Nat.le_refl _) (fun _ _ h => ssqt s h) (fun _ xs h => ⟨xs, s _ _ h⟩) (fun _ _ h => s _ _ h)
/-- draws leave a thing as it is -/
theorem TAt.kp {A : PA} {c c' : Nat} (P : Pool H A c) (P' : Pool H' A c') (k : Kp A H H') {v : V} {t : Th} (x : TAt N K H v t) : TAt N K H' v t := by
  refine x.keep (Nat.le_refl _) (fun _ _ h => (P.imm k).sq h) (fun a xs h => ?_) (fun a kvs h => k _ _ h (P.offo h fun _ q => by cases q))
  obtain ⟨gs, ss, st, ct, p1, p2, p3, _⟩ := P'.ex
  by_cases h1 : a = A.p
  · exact ⟨_, by rw [h1]; exact p1⟩
  · by_cases h2 : a = A.g
    · exact ⟨_, by rw [h2]; exact p2⟩
    · by_cases h3 : a = A.s
      · exact ⟨_, by rw [h3]; exact p3⟩
      · exact ⟨xs, k _ _ h ⟨h1, h2, h3⟩⟩
end
/-! isinstance, len of a thing -/
def tyn : Th → String
  | .non => "NoneType"
  | .bl _ => "bool"
  | .int _ => "int"
  | .str _ => "str"
  | .tup _ => "tuple"
  | .lst => "list"
  | .dic => "dict"
def isTh (nm : String) (t : Th) : Bool := tyn t == nm || (nm == "int" && tyn t == "bool")
def tyL : List String := ["tuple", "int", "bool", "str"]
theorem kit_th {K : PySem.W.Frag} {t : Th} {nm : String} (h : nm ∈ tyL) : PySem.W.kitOne K (.type (tyn t)) (.type nm) = some (isTh nm t) := by
  have key : ∀ a ∈ ["NoneType", "bool", "int", "str", "tuple", "list", "dict"], ∀ b ∈ tyL, kitB a b = some (a == b || (b == "int" && a == "bool")) := by decide +kernel
  have ht : tyn t ∈ ["NoneType", "bool", "int", "str", "tuple", "list", "dict"] := by cases t <;> simp [tyn]
  exact kit_ty (key _ ht _ h)
theorem ty_th {K : PySem.W.Frag} {H : Hp} {N : Nat} {v : V} {t : Th} (x : TAt N K H v t) : TyX K H v (.type (tyn t)) := by
  cases x with
  | non => exact .base .non
  | bl b => exact .base (.bl b)
  | int i => exact .base (.int i)
  | str x _ _ => exact .base (.str x)
  | tup h _ _ => exact ty_sqt h
  | lst h => exact .base (.lst h)
  | dic h => exact .base (.dK h)
section
variable {X : Cx}
def rIsT (K : PySem.W.Frag) : List V → Hp → VK → Prop := fun xs H Q => ∃ (v : V) (t : Th) (N : Nat) (nm : String), xs = [v, .ty nm] ∧ TAt N K H v t ∧ nm ∈ tyL ∧ Q (.bl (isTh nm t)) H
theorem call_isT : CallR X (.builtin "isinstance") (rIsT X.K) := fun pins s σ H xs us Q I r ⟨v, t, _, nm, e, x, h, q⟩ =>
  call_isi pins s σ H xs us Q I r ⟨v, .ty nm, .type (tyn t), .type nm, isTh nm t, e, .ty nm, ty_th x, kit_th h, q⟩
theorem isTK (K : PySem.W.Frag) (h : X.K = K := by rfl) : CallR X (.builtin "isinstance") (rIsT K) := by subst h; exact call_isT
def rLenX (K : PySem.W.Frag) : List V → Hp → VK → Prop := fun xs H Q => (∃ z, xs = [.str z] ∧ z.length ≤ sizeLine ∧ Q (.int z.length) H) ∨ (∃ p ys, xs = [.ref p] ∧ (SqL K H p ys ∨ SqT K H p ys) ∧ Q (.int ys.length) H)
theorem call_lenX : CallR X (.builtin "len") (rLenX X.K) := fun pins s σ H xs us Q I r h => h.elim (fun h => call_len_str pins s σ H xs us Q I r h) (fun h => call_len_seq pins s σ H xs us Q I r h)
theorem lenXK (K : PySem.W.Frag) (h : X.K = K := by rfl) : CallR X (.builtin "len") (rLenX K) := by subst h; exact call_lenX
end
/-! what a thing is, by the law -/
def rowB : Th → Int → Int → Bool
  | .tup ts, lo, hi => decide (lo ≤ ts.length) && decide ((ts.length : Int) ≤ hi)
  | _, _, _ => false
def nameB : Th → Bool
  | .str x => decide (1 ≤ x.length) && decide (x.length ≤ 8) && decide (x ∉ wordsL) && x.cps.toList.all fun c => decide (c ∈ lettersS.cps.toList)
  | _ => false

/-! ### own errors -/
structure XCls (K : PySem.W.Frag) (mg : Str → Option Value) (nm : Str) (C : Addr) : Prop where
  g : mg nm = some (.ref C)
  k : PySem.W.keepIn K (.ref C) = true
  b : PySem.W.subIn K (.ref C) (.type "BaseException") = some true
  t : PySem.W.typeIn K (.ref C) = some (.type "type")
  h : PySem.W.hasDictIn K C = true
theorem XCls.r {K : PySem.W.Frag} {mg : Str → Option Value} {nm : Str} {C : Addr} (_ : XCls K mg nm C) : RelV (.ref C) (.ref C) := rfl
/-- the error that is raised -/
structure XRai (K : PySem.W.Frag) (C : Addr) : Prop where
  x : PySem.W.excIn K C [.type "ValueError", .type "Exception", .type "BaseException", .type "object"] "ValueError.__new__" = true
  E : ExcC K C
  s : PySem.W.subIn K (.ref C) (.ref C) = some true
  v : PySem.W.subIn K (.ref C) (.type "ValueError") = some true
theorem XCls.exm {K : PySem.W.Frag} {mg : Str → Option Value} {nm : Str} {C D : Addr} {b : Bool} (c : XCls K mg nm C) (h : PySem.W.subIn K (.ref D) (.ref C) = some b) : PySem.W.exmOne K (.ref D) (.ref C) = some b :=
  PySem.W.exm_ref c.b c.h c.t h
theorem XCls.kit {K : PySem.W.Frag} {mg : Str → Option Value} {nm : Str} {C D : Addr} {b : Bool} (c : XCls K mg nm C) (r : XRai K D) (h : PySem.W.subIn K (.ref D) (.ref C) = some b) : PySem.W.kitOne K (.ref D) (.ref C) = some b := by
  have e := c.exm h
  unfold PySem.W.exmOne at e
  rw [if_pos (by rw [c.b] <;> rfl)] at e
  unfold PySem.W.kitOne
  by_cases q : (Value.ref D == Value.ref C) = true
  · rw [if_pos q]
    have q' : D = C := Value.ref.inj (eq_of_beq q)
    rw [q'] at h r
    rw [r.s] at h
    exact h
  · rw [if_neg q]
    exact e
theorem XRai.kit {K : PySem.W.Frag} {D : Addr} (r : XRai K D) : PySem.W.kitOne K (.ref D) (.type "ValueError") = some true := by
  unfold PySem.W.kitOne PySem.W.kitCls
  rw [if_neg (by intro q; exact absurd (eq_of_beq q) (by intro z; cases z))]
  change (if PySem.W.kitMeta "ValueError" = true then _ else _) = _
  rw [if_pos (by decide +kernel)]
  exact r.v
theorem zc_of {cls : Value} {d : Option Addr} {D : Addr} {oe : Obj} (hz : Zc cls d oe) (hp : cls = .ref D ∧ d = none) : Zc (.ref D) none oe := by
  obtain ⟨rfl, rfl⟩ := hp
  exact hz
theorem pss_when {X : Cx} {sts : List Stmt} {p : Prop} {t : TS} (h : p → PSs X sts t) : PSs X sts (fun D σ H => p ∧ t D σ H) := ⟨fun pins s σ H D I q => (h q.1).run pins s σ H D I q.2⟩
/-- a def that may raise, as callers see it -/
structure CalX (P : Program) (w : World) (K : PySem.W.Frag) (mg : Str → Option Value) (base : Heap) (k : Nat) (x : Str) (ps : List Str) (sp : Sp) where
  f : Addr
  fd : FuncData
  G : FnOk P w K mg base (L2.CX P w) k f fd ps sp
  g : mg x = some (.ref f)
  kp : PySem.W.keepIn K (.ref f) = true
  b : Binds K fd ps []
/-- the raised error, the base of all, two others -/
structure XSet (K : PySem.W.Frag) (mg : Str → Option Value) (nR nA nB : Str) where
  R : Addr
  T : Addr
  A : Addr
  B : Addr
  xR : XCls K mg nR R
  xT : XCls K mg "TreeError" T
  xA : XCls K mg nA A
  xB : XCls K mg nB B
  r : XRai K R
  sT : PySem.W.subIn K (.ref R) (.ref T) = some true
  sA : PySem.W.subIn K (.ref R) (.ref A) = some false
  sB : PySem.W.subIn K (.ref R) (.ref B) = some false

/-! ### odd things, bent things -/
abbrev s_law_odd : Stmt := topS 42
theorem sc_law_odd : FnScope ["_law_pool_here", "_law_some"] ["_law_pool_here"] (defScope s_law_odd) := ⟨rfl, rfl, rfl, by decide +kernel, rfl, by decide +kernel, by decide +kernel⟩
abbrev s_law_bent : Stmt := topS 43
theorem sc_law_bent : FnScope ["_law_pool_here", "_law_thing", "_law_deep", "_law_at", "_law_way", "_law_turn"] ["_law_pool_here", "_law_thing", "_law_deep"] (defScope s_law_bent) := ⟨rfl, rfl, rfl, by decide +kernel, rfl, by decide +kernel, by decide +kernel⟩
section
variable {P : Program} {w : World} {K : PySem.W.Frag} {mg : Str → Option Value} {base : Heap}
def spOdd (K : PySem.W.Frag) : Sp := fun vs H Q _ => ∃ (A : PA) (c : Nat), vs = [.ref A.p] ∧ Pool H A c ∧ c < 900000 ∧ ∀ (H' : Hp) (v : V) (t : Th), Pool H' A (c + 1) → Kp A H H' → TAt 2 K H' v t → Q v H'
theorem ok_odd {f : Addr} {fd : FuncData} (F : Fun K "_law_odd" "_law_odd" s_law_odd f fd) (c_law_draw : Cal P w K mg base 1 "_law_draw" ["_law_pool_here", "_law_many"] spDraw) : FnOk P w K mg base CX0 2 f fd ["_law_pool_here"] (spOdd K) := by
  refine F.ok sc_law_odd (fun vs H Q E h => ?_) (fun cdv A outer s H vs Q E hr h => ?_)
  · obtain ⟨A, c, rfl, _⟩ := h
    rfl
  · obtain ⟨PL, c, rfl, P0, hc, q⟩ := h
    refine ⟨_, (pss_cons (ps_set (i := 1) sc_law_odd.nd rfl (.inl rfl) (pe_lst (pa_cons pe_non (pa_cons pe_bl (pa_cons pe_bl (pa_cons pe_str (pa_cons pe_str (pa_cons (pe_un un_neg pe_int) (pa_cons pe_int (pa_cons (pe_op op_add (pe_op op_pow pe_int pe_int) pe_int) (pa_cons (pe_tup pa_nil) (pa_cons (pe_lst pa_nil) (pa_cons (pe_tup (pa_cons pe_int pa_nil)) (pa_cons (pe_lst (pa_cons pe_int pa_nil)) (pa_cons pe_dnewK (pa_cons pe_str (pa_cons pe_str (pa_cons pe_str pa_nil))))))))))))))))))
      (pss_cons (ps_set (i := 1) sc_law_odd.nd rfl (.inl rfl) (pe_op op_cat (pv 1) (pe_lst (pa_cons (pe_tup (pa_cons pe_str pa_nil)) (pa_cons pe_int (pa_cons pe_int (pa_cons pe_str (pa_cons (pe_tup (pa_cons pe_int (pa_cons pe_int pa_nil))) (pa_cons (pe_disp (pps_cons pe_str pe_int pps_nil) (by rfl) (by rfl) (fun z => by cases z) (by decide)) (pa_cons pe_str pa_nil))))))))))
      (pss_one (ps_ret (pe_ix ix_list (pv 1) (pe_call c_law_draw.G hr (by rfl) c_law_draw.g c_law_draw.kp c_law_draw.b .nil pass0 (pa_cons (pv 0) (pa_cons pe_int pa_nil))) (fun _ _ => rfl)))))), ?_⟩
    refine ⟨_, rfl, _, _, rfl, rfl, ⟨by decide, by decide, by decide⟩, _, _, rfl, rfl, by show 0 ≤ sizeLine; decide, fun e1 g1 => ⟨by show 0 ≤ sizeLine; decide, fun e2 g2 => ⟨by show 1 ≤ sizeLine; decide, fun e3 g3 => ⟨by show 1 ≤ sizeLine; decide, fun e4 g4 => fun e5 g5 => ⟨by show 16 ≤ sizeLine; decide, fun L hL => ?_⟩⟩⟩⟩⟩
    refine ⟨_, rfl, by show 1 ≤ sizeLine; decide, fun e6 g6 => ⟨by show 2 ≤ sizeLine; decide, fun e7 g7 => fun e8 g8 => ⟨upd_same, [(Sum.inr "a", .int 1)], rfl, by show 1 ≤ 15; decide, by show 7 ≤ sizeLine; decide, fun M hM => ?_⟩⟩⟩
    have m1 := same_upd (o := .tup []) g1
    have m2 := same_upd (o := .lst []) g2
    have m3 := same_upd (o := .tup [.int 0]) g3
    have m4 := same_upd (o := .lst [.int 0]) g4
    have m5 := same_upd (o := .dK []) g5
    have mL := same_upd (o := .lst [.non, .bl true, .bl false, .str "a", .str "", .int (-1), .int 40, .int (10 ^ 21 + 3), .ref e1, .ref e2, .ref e3, .ref e4, .ref e5, .str "Aa", .str "no", .str "abcdefghi"]) hL
    have m6 := same_upd (o := .tup [.str "a"]) g6
    have m7 := same_upd (o := .tup [.int 0, .int 0]) g7
    have m8 := smut (o := .dK [(Sum.inr "a", .int 1)]) (same_upd (o := .dK []) g8) g8
    have mM := same_upd (o := .lst [.ref e6, .int 0, .int 1, .str "b c", .ref e7, .ref e8, .str "z"]) hM
    have hL1 := (((m6.trans m7).trans m8).trans mM) _ _ upd_same
    refine ⟨L, M, _, _, rfl, rfl, hL1, upd_same, by show 23 ≤ sizeLine; decide, fun so hso => ?_⟩
    have ms := same_upd (o := .lst ([.non, .bl true, .bl false, .str "a", .str "", .int (-1), .int 40, .int (10 ^ 21 + 3), .ref e1, .ref e2, .ref e3, .ref e4, .ref e5, .str "Aa", .str "no", .str "abcdefghi"] ++ [.ref e6, .int 0, .int 1, .str "b c", .ref e7, .ref e8, .str "z"])) hso
    have t8 := mM.trans ms
    have t7 := m8.trans t8
    have t6 := m7.trans t7
    have tL := m6.trans t6
    have t5 := mL.trans tL
    have t4 := m5.trans t5
    have t3 := m4.trans t4
    have t2 := m3.trans t3
    have t1 := m2.trans t2
    have t0 := m1.trans t1
    have f1 := t1 _ _ upd_same
    have f2 := t2 _ _ upd_same
    have f3 := t3 _ _ upd_same
    have f4 := t4 _ _ upd_same
    have f5 := t5 _ _ upd_same
    have f6 := t6 _ _ upd_same
    have f7 := t7 _ _ upd_same
    have f8 := t8 _ _ upd_same
    have fs : ∀ Hm : Hp, upd Hm so (.lst ([.non, .bl true, .bl false, .str "a", .str "", .int (-1), .int 40, .int (10 ^ 21 + 3), .ref e1, .ref e2, .ref e3, .ref e4, .ref e5, .str "Aa", .str "no", .str "abcdefghi"] ++ [.ref e6, .int 0, .int 1, .str "b c", .ref e7, .ref e8, .str "z"])) so = some (.lst ([.non, .bl true, .bl false, .str "a", .str "", .int (-1), .int 40, .int (10 ^ 21 + 3), .ref e1, .ref e2, .ref e3, .ref e4, .ref e5, .str "Aa", .str "no", .str "abcdefghi"] ++ [.ref e6, .int 0, .int 1, .str "b c", .ref e7, .ref e8, .str "z"])) := fun _ => upd_same
    have ofs := (P0.same ((((((((((m1.trans m2).trans m3).trans m4).trans m5).trans mL).trans m6).trans m7).trans m8).trans mM))).off hso
    have one : ∀ (a : Addr) (Hx : Hp), SqT K Hx a [.int 0] → ∃ t, TAt 2 K Hx (.ref a) t := fun a Hx h => TAt.mk h (by decide) fun v hv => by
      rw [List.mem_singleton.mp hv]
      exact ⟨_, .int 0⟩
    refine ⟨_, rfl, _, rfl, PL, c, 23, rfl, P0.same t0, by omega, by decide, by decide, fun H1 r r0 r1 P1 K1 => ?_⟩
    have all : ∀ v ∈ ([.non, .bl true, .bl false, .str "a", .str "", .int (-1), .int 40, .int (10 ^ 21 + 3), .ref e1, .ref e2, .ref e3, .ref e4, .ref e5, .str "Aa", .str "no", .str "abcdefghi"] ++ [.ref e6, .int 0, .int 1, .str "b c", .ref e7, .ref e8, .str "z"] : List V), ∃ t, TAt 2 K H1 v t := by
      have up : ∀ {v : V} {t : Th}, TAt 2 K _ v t → ∃ t, TAt 2 K H1 v t := fun {v t} x => ⟨t, x.kp (P0.same t0) P1 K1⟩
      have up2 : ∀ {v : V}, (∃ t, TAt 2 K _ v t) → ∃ t, TAt 2 K H1 v t := fun {v} ⟨t, x⟩ => ⟨t, x.kp (P0.same t0) P1 K1⟩
      refine List.forall_mem_append.mpr ⟨?_, ?_⟩
      · refine List.forall_mem_cons.mpr ⟨⟨_, .non⟩, List.forall_mem_cons.mpr ⟨⟨_, .bl _⟩, List.forall_mem_cons.mpr ⟨⟨_, .bl _⟩, List.forall_mem_cons.mpr ⟨⟨_, .str _ (by decide +kernel) (by decide +kernel)⟩, List.forall_mem_cons.mpr ⟨⟨_, .str _ (by decide +kernel) (by decide +kernel)⟩, List.forall_mem_cons.mpr ⟨⟨_, .int _⟩, List.forall_mem_cons.mpr ⟨⟨_, .int _⟩, List.forall_mem_cons.mpr ⟨⟨_, .int _⟩, ?_⟩⟩⟩⟩⟩⟩⟩⟩
        refine List.forall_mem_cons.mpr ⟨up2 (TAt.mk (SqT.of f1) (by decide) fun v hv => absurd hv List.not_mem_nil), List.forall_mem_cons.mpr ⟨up (.lst f2), List.forall_mem_cons.mpr ⟨up2 (one _ _ (SqT.of f3)), List.forall_mem_cons.mpr ⟨up (.lst f4), List.forall_mem_cons.mpr ⟨up (.dic f5), ?_⟩⟩⟩⟩⟩
        exact List.forall_mem_cons.mpr ⟨⟨_, .str _ (by decide +kernel) (by decide +kernel)⟩, List.forall_mem_cons.mpr ⟨⟨_, .str _ (by decide +kernel) (by decide +kernel)⟩, List.forall_mem_cons.mpr ⟨⟨_, .str _ (by decide +kernel) (by decide +kernel)⟩, List.forall_mem_nil _⟩⟩⟩
      · refine List.forall_mem_cons.mpr ⟨up2 (TAt.mk (SqT.of f6) (by decide) fun v hv => ?_), List.forall_mem_cons.mpr ⟨⟨_, .int _⟩, List.forall_mem_cons.mpr ⟨⟨_, .int _⟩, List.forall_mem_cons.mpr ⟨⟨_, .str _ (by decide +kernel) (by decide +kernel)⟩, List.forall_mem_cons.mpr ⟨up2 (TAt.mk (SqT.of f7) (by decide) fun v hv => ?_), List.forall_mem_cons.mpr ⟨up (.dic f8), List.forall_mem_cons.mpr ⟨⟨_, .str _ (by decide +kernel) (by decide +kernel)⟩, List.forall_mem_nil _⟩⟩⟩⟩⟩⟩⟩
        · rw [List.mem_singleton.mp hv]
          exact ⟨_, .str _ (by decide +kernel) (by decide +kernel)⟩
        · have : v = .int 0 := by
            rcases List.mem_cons.mp hv with e | hv
            · exact e
            · exact List.mem_singleton.mp hv
          rw [this]
          exact ⟨_, .int 0⟩
    obtain ⟨j, rfl⟩ : ∃ j : Nat, r = (j : Int) := ⟨r.toNat, by omega⟩
    have hj : j < ([.non, .bl true, .bl false, .str "a", .str "", .int (-1), .int 40, .int (10 ^ 21 + 3), .ref e1, .ref e2, .ref e3, .ref e4, .ref e5, .str "Aa", .str "no", .str "abcdefghi"] ++ [.ref e6, .int 0, .int 1, .str "b c", .ref e7, .ref e8, .str "z"] : List V).length := by
      show j < 23
      omega
    obtain ⟨t, ht⟩ := all _ (List.getElem_mem hj)
    exact ⟨so, _, _, _, rfl, rfl, SqL.of (K1 _ _ (fs _) ofs), atI_nat (List.getElem?_eq_getElem hj), q _ _ t P1 ((skp t0).trans K1) ht⟩
theorem tup_or {N : Nat} {H : Hp} {v : V} {t : Th} (x : TAt N K H v t) : (∃ a xs ts, v = .ref a ∧ t = .tup ts ∧ SqT K H a xs ∧ xs.length ≤ N ∧ TAll N K H xs ts) ∨ isTh "tuple" t = false := by
  cases x with
  | tup h l r => exact .inl ⟨_, _, _, rfl, rfl, h, l, r⟩
  | _ => exact .inr (by first | rfl | decide | simp [isTh, tyn])
theorem int_or {N : Nat} {H : Hp} {v : V} {t : Th} (x : TAt N K H v t) : (∃ i, v = .int i ∧ t = .int i) ∨ (isTh "int" t = false ∨ isTh "bool" t = true) := by
  cases x with
  | int i => exact .inl ⟨_, rfl, rfl⟩
  | bl b => exact .inr (.inr (by simp [isTh, tyn]))
  | _ => exact .inr (.inl (by simp [isTh, tyn]))
/-- bending goes no deeper than d (0: it is never asked) -/
def spB (K : PySem.W.Frag) : Nat → Sp
  | 0 => fun _ _ _ _ => False
  | d + 1 => fun vs H Q _ => ∃ (A : PA) (c N : Nat) (v : V) (t : Th) (e : Int), vs = [.ref A.p, v, .int e] ∧ Pool H A c ∧ c + 4 * (d + 1) < 800000 ∧ 2 ≤ N ∧ N ≤ 1000 ∧ TAt N K H v t ∧ 0 ≤ e ∧ e ≤ d ∧ d ≤ 10 ∧
    ∀ (H' : Hp) (v' : V) (t' : Th), Pool H' A (c + 4 * (d + 1)) → Kp A H H' → TAt (N + 1) K H' v' t' → Q v' H'
theorem cutV_to (xs : List V) (m : Nat) : cutV xs none (some (m : Int)) = xs.take m := by
  unfold cutV
  rw [HT.sIx_nat, HT.sIx_none, Nat.sub_zero, List.drop_zero, Nat.min_def]
  split
  · rfl
  · rw [List.take_of_length_le (Nat.le_refl _), List.take_of_length_le (by omega)]
theorem cutV_on (xs : List V) (m : Nat) (h : m ≤ xs.length) : cutV xs (some (m : Int)) none = xs.drop m := by
  unfold cutV
  rw [HT.sIx_nat, HT.sIx_none, Nat.min_eq_left h, List.take_of_length_le (by rw [List.length_drop]; exact Nat.le_refl _)]
theorem cut_mem {xs : List V} {lo hi : Option Int} {x : V} (h : x ∈ cutV xs lo hi) : x ∈ xs := List.mem_of_mem_drop (List.mem_of_mem_take h)
theorem ok_bent1 {f : Addr} {fd : FuncData} (F : Fun K "_law_bent" "_law_bent" s_law_bent f fd) (T : Bi mg) (c_law_draw : Cal P w K mg base 1 "_law_draw" ["_law_pool_here", "_law_many"] spDraw) (c_law_odd : Cal P w K mg base 2 "_law_odd" ["_law_pool_here"] (spOdd K))
    {k d : Nat} (c_law_bent : Cal P w K mg base k "_law_bent" ["_law_pool_here", "_law_thing", "_law_deep"] (spB K d)) (hk : 2 ≤ k) : FnOk P w K mg base CX0 (k + 1) f fd ["_law_pool_here", "_law_thing", "_law_deep"] (spB K (d + 1)) := by
  refine F.ok sc_law_bent (fun vs H Q E h => ?_) (fun cdv A outer s H vs Q E hr h => ?_)
  · obtain ⟨A, c, N, v, t, e, rfl, _⟩ := h
    rfl
  · obtain ⟨PL, c, N, v, t, e, rfl, P0, hc, n1, n2, x0, d0, d1, d2, q⟩ := h
    refine ⟨_, (Evl.pss_cut (ps_if (PW.pt (pw_and (pt_val (pe_callB call_isT (by rfl) T.isinstance (by decide +kernel) (pa_cons (pv 1) (pa_cons (pe_bltn (v := .ty "tuple") (u := .type "tuple") (by rfl) T.tuple (by decide +kernel) rfl) pa_nil)))) (pw_and (pt_cmpR op_gt (pe_callB call_lenX (by rfl) T.len PySem.boot_len (pa_cons (pv 1) pa_nil)) pe_int (nomark _)) (pw_and (pt_cmpR op_gt (pv 2) pe_int (nomark _)) (pw_and1 (pt_cmpR op_gt (pe_call c_law_draw.G (hr.mono (by omega)) (by rfl) c_law_draw.g c_law_draw.kp c_law_draw.b .nil pass0 (pa_cons (pv 0) (pa_cons pe_int pa_nil))) pe_int (nomark _)))))))
        (pss_cons (ps_set (i := 3) sc_law_bent.nd rfl (.inl rfl) (pe_call c_law_draw.G (hr.mono (by omega)) (by rfl) c_law_draw.g c_law_draw.kp c_law_draw.b .nil pass0 (pa_cons (pv 0) (pa_cons (pe_callB call_lenX (by rfl) T.len PySem.boot_len (pa_cons (pv 1) pa_nil)) pa_nil))))
        (pss_one (ps_ret (pe_op op_catQ (pe_op op_catQ (pe_slice sl_tupQ (pv 1) po_none (po_some (pv 3))) (pe_tup (pa_cons (pe_call c_law_bent.G hr (by rfl) c_law_bent.g c_law_bent.kp c_law_bent.b .nil pass0 (pa_cons (pv 0) (pa_cons (pe_ix ix_tup (pv 1) (pv 3) (fun _ _ => rfl)) (pa_cons (pe_op op_sub (pv 2) pe_int) pa_nil)))) pa_nil))) (pe_slice sl_tupQ (pv 1) (po_some (pe_op op_add (pv 3) pe_int)) po_none)))))
        pss_nil)
      (pss_cons (ps_set (i := 4) sc_law_bent.nd rfl (.inl rfl) (pe_call c_law_draw.G (hr.mono (by omega)) (by rfl) c_law_draw.g c_law_draw.kp c_law_draw.b .nil pass0 (pa_cons (pv 0) (pa_cons pe_int pa_nil))))
      (Evl.pss_cut (ps_if (PW.pt (pw_and (pt_val (pe_callB call_isT (by rfl) T.isinstance (by decide +kernel) (pa_cons (pv 1) (pa_cons (pe_bltn (v := .ty "tuple") (u := .type "tuple") (by rfl) T.tuple (by decide +kernel) rfl) pa_nil)))) (pw_and1 (pt_cmpR op_gt (pv 4) pe_int (nomark _)))))
        (pss_cons (ps_set (i := 5) sc_law_bent.nd rfl (.inl rfl) (pe_call c_law_draw.G (hr.mono (by omega)) (by rfl) c_law_draw.g c_law_draw.kp c_law_draw.b .nil pass0 (pa_cons (pv 0) (pa_cons pe_int pa_nil))))
        (pss_cons (ps_if (pt_cmpR op_eq (pv 5) pe_int (nomark _))
          (pss_one (ps_ret (pe_callTy call_list_of (by rfl) T.list (by decide +kernel) (pa_cons (pv 1) pa_nil))))
          pss_nil)
        (pss_cons (ps_if (pt_cmpR op_eq (pv 5) pe_int (nomark _))
          (pss_one (ps_ret (pe_op op_catQ (pv 1) (pe_tup (pa_cons (pe_call c_law_odd.G (hr.mono (by omega)) (by rfl) c_law_odd.g c_law_odd.kp c_law_odd.b .nil pass0 (pa_cons (pv 0) pa_nil)) pa_nil)))))
          pss_nil)
        (pss_one (ps_ret (pe_ix ix_list (pe_lst (pa_cons (pe_slice sl_tupQ (pv 1) po_none (po_some (pe_un un_neg pe_int))) (pa_cons (BkT.pe_back (pv 1) (po_some (pe_un un_neg pe_int))) (pa_cons (pe_op op_catQ (pv 1) (pe_slice sl_tupQ (pv 1) (po_some (pe_un un_neg pe_int)) po_none)) (pa_cons (pe_slice sl_tupQ (pv 1) (po_some pe_int) po_none) pa_nil))))) (pe_op op_sub (pv 5) pe_int) (fun _ _ => rfl)))))))
        pss_nil)
      (Evl.pss_cut (ps_if (PW.pt (pw_and (pt_val (pe_callB call_isT (by rfl) T.isinstance (by decide +kernel) (pa_cons (pv 1) (pa_cons (pe_bltn (v := .ty "int") (u := .type "int") (by rfl) T.int (by decide +kernel) rfl) pa_nil)))) (pw_and (pt_not (pt_val (pe_callB call_isT (by rfl) T.isinstance (by decide +kernel) (pa_cons (pv 1) (pa_cons (pe_bltn (v := .ty "bool") (u := .type "bool") (by rfl) T.bool (by decide +kernel) rfl) pa_nil))))) (pw_and1 (pt_cmpR op_gt (pv 4) pe_int (nomark _))))))
        (pss_one (ps_ret (pe_op op_add (pv 1) (pe_ix ix_list (pe_lst (pa_cons pe_int (pa_cons (pe_un un_neg pe_int) (pa_cons pe_int (pa_cons (pe_op op_sub pe_int (pv 1)) pa_nil))))) (pe_call c_law_draw.G (hr.mono (by omega)) (by rfl) c_law_draw.g c_law_draw.kp c_law_draw.b .nil pass0 (pa_cons (pv 0) (pa_cons pe_int pa_nil))) (fun _ _ => rfl)))))
        pss_nil)
      (pss_one (ps_ret (pe_call c_law_odd.G (hr.mono (by omega)) (by rfl) c_law_odd.g c_law_odd.kp c_law_odd.b .nil pass0 (pa_cons (pv 0) pa_nil)))))))), ?_⟩
    refine ⟨fun σ H' => σ = [some (.ref PL.p), some v, some (.int e), none, none, none] ∧ Pool H' PL (c + 1) ∧ Kp PL H H' ∧ TAt N K H' v t, ?_, ?_⟩
    · refine ⟨_, rfl, v, t, N, "tuple", rfl, x0, by simp [tyL], _, rfl, ?_⟩
      rcases tup_or x0 with ⟨a, xs, ts, rfl, rfl, hx, hl, hall⟩ | ht
      · rw [show isTh "tuple" (.tup ts) = true by simp [isTh, tyn]]
        refine iteT ⟨_, rfl, .inr ⟨a, xs, rfl, .inr hx, _, _, rfl, rfl, _, rfl, ite2 (fun e1 => ?_) (fun e1 => iteF ?_)⟩⟩
        · refine ⟨_, rfl, _, _, rfl, rfl, _, rfl, ite2 (fun e2 => ?_) (fun e2 => iteF ?_)⟩
          · refine ⟨_, rfl, PL, c, 6, rfl, P0, by omega, by decide, by decide, fun H1 r r0 r1 P1 K1 => ⟨_, _, rfl, rfl, _, rfl, ite2 (fun e3 => ?_) (fun e3 => ?_)⟩⟩
            · have x1 := x0.kp P0 P1 K1
              have hx1 := (P0.imm K1).sq hx
              have len0 : 0 < xs.length := by
                have := of_decide_eq_true e1
                omega
              refine ⟨_, rfl, _, rfl, .inr ⟨a, xs, rfl, .inr hx1, PL, _, xs.length, rfl, P1, by omega, by omega, by omega, fun H2 j j0 j1 P2 K2 => ?_⟩⟩
              have hx2 := (P1.imm K2).sq hx1
              have x2 := x1.kp P1 P2 K2
              obtain ⟨j, rfl⟩ : ∃ i : Nat, j = (i : Int) := ⟨j.toNat, by omega⟩
              have hj : j < xs.length := by omega
              have de : 0 < e := of_decide_eq_true e2
              obtain ⟨d', rfl⟩ : ∃ d', d = d' + 1 := ⟨d - 1, by omega⟩
              have all2 : ∀ y ∈ xs, ∃ t, TAt N K H2 y t := fun y hy => by
                obtain ⟨t, xt⟩ := hall.mem hy
                exact ⟨t, (xt.kp P0 P1 K1).kp P1 P2 K2⟩
              refine ⟨_, rfl, _, rfl, _, rfl, a, _, rfl, hx2, fun b1 H3 s3 hb1 => ?_⟩
              rw [cutV_to] at hb1
              have P3 := P2.same s3
              obtain ⟨tj, xj⟩ := all2 xs[j] (List.getElem_mem hj)
              refine ⟨_, rfl, _, rfl, _, rfl, a, _, _, xs[j], rfl, rfl, ssqt s3 hx2, at_of rfl (List.getElem?_eq_getElem hj), _, rfl, _, _, rfl, rfl, PL, _, N, xs[j], tj, e - 1, rfl, P3, by omega, n1, n2, xj.same s3, by omega, by omega, by omega, fun H4 v' t' P4 K4 x4 => ?_⟩
              refine ⟨by show 1 ≤ sizeLine; decide, fun p hp => ?_⟩
              have sp := same_upd (o := .tup [v']) hp
              have hx4 := ssqt sp ((P3.imm K4).sq (ssqt s3 hx2))
              refine ⟨b1, p, _, _, rfl, rfl, ssqt sp ((P3.imm K4).sq hb1), SqT.of upd_same, szOk (by rw [List.length_take]; show min j xs.length + 1 ≤ _; omega), fun g H5 s5 hg => ?_⟩
              refine ⟨_, rfl, _, rfl, _, _, rfl, rfl, _, rfl, a, _, rfl, ssqt s5 hx4, fun b2 H6 s6 hb2 => ?_⟩
              rw [show ((j : Int) + 1) = ((j + 1 : Nat) : Int) by omega, cutV_on _ _ (by omega)] at hb2
              refine ⟨g, b2, _, _, rfl, rfl, ssqt s6 hg, hb2, szOk (by rw [List.length_append, List.length_take, List.length_drop]; show min j xs.length + 1 + (xs.length - (j + 1)) ≤ _; omega), fun z H7 s7 hz => ?_⟩
              have s47 := ((sp.trans s5).trans s6).trans s7
              obtain ⟨tz, xz⟩ : ∃ t, TAt (N + 1) K H7 (.ref z) t := TAt.mk hz (by rw [List.length_append, List.length_append, List.length_take, List.length_drop]; show min j xs.length + 1 + (xs.length - (j + 1)) ≤ _; omega) fun y hy => by
                have old : y ∈ xs → ∃ t, TAt (N + 1) K H7 y t := fun hy => by
                  obtain ⟨t, xt⟩ := all2 y hy
                  exact ⟨t, (((xt.same s3).kp P3 P4 K4).same s47).more (by omega)⟩
                rcases List.mem_append.mp hy with hy | hy
                · rcases List.mem_append.mp hy with hy | hy
                  · exact old (List.mem_of_mem_take hy)
                  · rw [List.mem_singleton.mp hy]
                    exact ⟨t', x4.same s47⟩
                · exact old (List.mem_of_mem_drop hy)
              exact q _ _ tz ((P4.same s47).mono (by omega)) ((((K1.trans K2).trans (skp s3)).trans K4).trans (skp s47)) xz
            · exact ⟨rfl, P1, K1, x0.kp P0 P1 K1⟩
          · exact ⟨rfl, P0.mono (by omega), Kp.refl _, x0⟩
        · exact ⟨rfl, P0.mono (by omega), Kp.refl _, x0⟩
      · rw [ht]
        exact iteF (iteF ⟨rfl, P0.mono (by omega), Kp.refl _, x0⟩)
    rintro σ H1 ⟨rfl, P1, K1, x1⟩
    refine ⟨_, rfl, PL, _, 3, rfl, P1, by omega, by decide, by decide, fun H2 wy _ _ P2 K2 => ?_⟩
    have x2 := x1.kp P1 P2 K2
    have K02 := K1.trans K2
    refine ⟨fun σ H' => σ = [some (.ref PL.p), some v, some (.int e), none, some (.int wy), none] ∧ H' = H2, ?_, ?_⟩
    · refine ⟨_, rfl, v, t, N, "tuple", rfl, x2, by simp [tyL], _, rfl, ?_⟩
      rcases tup_or x2 with ⟨a, xs, ts, rfl, rfl, hx, hl, hall⟩ | ht
      · rw [show isTh "tuple" (.tup ts) = true by simp [isTh, tyn]]
        refine iteT ⟨_, rfl, _, _, rfl, rfl, _, rfl, ite2 (fun e1 => ?_) (fun e1 => ⟨rfl, rfl⟩)⟩
        refine ⟨_, rfl, PL, _, 6, rfl, P2, by omega, by decide, by decide, fun H3 tn t0 t1 P3 K3 => ?_⟩
        have hx3 := (P2.imm K3).sq hx
        have K03 := K02.trans K3
        have all3 : ∀ y ∈ xs, ∃ t, TAt N K H3 y t := fun y hy => by
          obtain ⟨t, xt⟩ := hall.mem hy
          exact ⟨t, xt.kp P2 P3 K3⟩
        have old : ∀ {H' : Hp}, Same H3 H' → ∀ y ∈ xs, ∃ t, TAt (N + 1) K H' y t := fun sm y hy => by
          obtain ⟨t, xt⟩ := all3 y hy
          exact ⟨t, (xt.same sm).more (by omega)⟩
        refine ⟨_, rfl, rfl, _, rfl, ?_⟩
        rw [dec_int]
        refine ite2 (fun e2 => ⟨_, rfl, a, xs, rfl, .inr hx3, fun l hl' => ?_⟩) (fun e2 => ⟨_, rfl, rfl, _, rfl, ?_⟩)
        · exact q _ _ .lst ((P3.same (same_upd hl')).mono (by omega)) (K03.trans (skp (same_upd hl'))) (.lst upd_same)
        rw [dec_int]
        refine ite2 (fun e3 => ⟨_, rfl, _, rfl, PL, _, rfl, P3, by omega, fun H4 v' t' P4 K4 x4 => ⟨by show 1 ≤ sizeLine; decide, fun p hp => ?_⟩⟩) (fun e3 => ?_)
        · have sp := same_upd (o := .tup [v']) hp
          refine ⟨a, p, _, _, rfl, rfl, ssqt sp ((P3.imm K4).sq hx3), SqT.of upd_same, szOk (by show xs.length + 1 ≤ _; omega), fun z H5 s5 hz => ?_⟩
          have s45 := sp.trans s5
          obtain ⟨tz, xz⟩ : ∃ t, TAt (N + 1) K H5 (.ref z) t := TAt.mk hz (by rw [List.length_append]; show xs.length + 1 ≤ _; omega) fun y hy => by
            rcases List.mem_append.mp hy with hy | hy
            · obtain ⟨t, xt⟩ := all3 y hy
              exact ⟨t, ((xt.kp P3 P4 K4).same s45).more (by omega)⟩
            · rw [List.mem_singleton.mp hy]
              exact ⟨t', (x4.same s45).more (by omega)⟩
          exact q _ _ tz ((P4.same s45).mono (by omega)) ((K03.trans K4).trans (skp s45)) xz
        have n0 : tn ≠ 0 := fun z => e2 (decide_eq_true z)
        have n1' : tn ≠ 1 := fun z => e3 (decide_eq_true z)
        refine ⟨_, rfl, _, rfl, _, rfl, a, _, rfl, hx3, fun b1 H4 s4 hb1 => ?_⟩
        refine ⟨_, rfl, _, rfl, _, rfl, rfl, a, xs, rfl, ssqt s4 hx3, fun b2 hb2 => ?_⟩
        have s5 := same_upd (o := .tup xs.reverse) hb2
        refine ⟨_, rfl, _, rfl, _, rfl, _, rfl, a, _, rfl, ssqt (s4.trans s5) hx3, fun b3 H6 s6 hb3 => ?_⟩
        have l3 : (cutV xs (some (-1)) none).length ≤ 1 := by
          unfold cutV
          rw [List.length_take, List.length_drop]
          show min (xs.length - (if (-1 : Int) < 0 then (-1 + (xs.length : Int)).toNat else min (Int.toNat (-1)) xs.length)) (xs.length - (if (-1 : Int) < 0 then (-1 + (xs.length : Int)).toNat else min (Int.toNat (-1)) xs.length)) ≤ 1
          rw [if_pos (by decide)]
          omega
        refine ⟨a, b3, _, _, rfl, rfl, ssqt ((s4.trans s5).trans s6) hx3, hb3, szOk (by have := cutV_length xs (some (-1)) none; omega), fun b4 H7 s7 hb4 => ?_⟩
        refine ⟨_, rfl, 1, rfl, a, _, rfl, ssqt (((s4.trans s5).trans s6).trans s7) hx3, fun b5 H8 s8 hb5 => ⟨by show 4 ≤ sizeLine; decide, fun L hL => ?_⟩⟩
        have sL := same_upd (o := .lst [.ref b1, .ref b2, .ref b4, .ref b5]) hL
        have s88 := s8.trans sL
        have s78 := s7.trans s88
        have s68 := s6.trans s78
        have s58 := s5.trans s68
        have s48 := s4.trans s58
        have P8 := P3.same s48
        have y1 : ∃ t, TAt (N + 1) K _ (.ref b1) t := TAt.mk (ssqt s58 hb1) (by have := cutV_length xs none (some (-1)); omega) fun y hy => old s48 y (cut_mem hy)
        have y2 : ∃ t, TAt (N + 1) K _ (.ref b2) t := TAt.mk (ssqt s68 (SqT.of upd_same)) (by rw [List.length_reverse]; omega) fun y hy => old s48 y (List.mem_reverse.mp hy)
        have y4 : ∃ t, TAt (N + 1) K _ (.ref b4) t := TAt.mk (ssqt s88 hb4) (by rw [List.length_append]; omega) fun y hy => old s48 y (by
          rcases List.mem_append.mp hy with hy | hy
          · exact hy
          · exact cut_mem hy)
        have y5 : ∃ t, TAt (N + 1) K _ (.ref b5) t := TAt.mk (ssqt sL hb5) (by have := cutV_length xs (some 1) none; omega) fun y hy => old s48 y (cut_mem hy)
        obtain ⟨j, b, tb, hb, ej, xb⟩ : ∃ (j : Nat) (b : Addr) (tb : Th), [V.ref b1, .ref b2, .ref b4, .ref b5][j]? = some (.ref b) ∧ tn - 2 = (j : Int) ∧ TAt (N + 1) K (L2.upd H8 L (.lst [.ref b1, .ref b2, .ref b4, .ref b5])) (.ref b) tb := by
          have : tn = 2 ∨ tn = 3 ∨ tn = 4 ∨ tn = 5 := by omega
          rcases this with rfl | rfl | rfl | rfl
          · exact ⟨0, b1, y1.choose, rfl, rfl, y1.choose_spec⟩
          · exact ⟨1, b2, y2.choose, rfl, rfl, y2.choose_spec⟩
          · exact ⟨2, b4, y4.choose, rfl, rfl, y4.choose_spec⟩
          · exact ⟨3, b5, y5.choose, rfl, rfl, y5.choose_spec⟩
        exact ⟨_, rfl, _, _, rfl, rfl, L, _, _, .ref b, rfl, rfl, SqL.of upd_same, at_of ej hb, q _ _ tb (P8.mono (by omega)) (K03.trans (skp s48)) xb⟩
      · rw [ht]
        exact iteF (iteF ⟨rfl, rfl⟩)
    rintro σ H' ⟨rfl, rfl⟩
    refine ⟨fun σ H'' => σ = [some (.ref PL.p), some v, some (.int e), none, some (.int wy), none] ∧ H'' = H', ?_, ?_⟩
    · refine ⟨_, rfl, v, t, N, "int", rfl, x2, by simp [tyL], _, rfl, ?_⟩
      rcases int_or x2 with ⟨i, rfl, rfl⟩ | hn
      · rw [show isTh "int" (.int i) = true by simp [isTh, tyn]]
        refine iteT ⟨_, rfl, _, .int i, N, "bool", rfl, x2, by simp [tyL], _, rfl, ?_⟩
        rw [show isTh "bool" (.int i) = false by simp [isTh, tyn]]
        refine iteT ⟨_, rfl, _, _, rfl, rfl, _, rfl, ite2 (fun e1 => ?_) (fun e1 => ⟨rfl, rfl⟩)⟩
        refine ⟨_, rfl, _, rfl, _, rfl, _, _, rfl, rfl, by show 4 ≤ sizeLine; decide, fun L hL => ⟨_, rfl, PL, _, 4, rfl, P2.same (same_upd hL), by omega, by decide, by decide, fun H4 r r0 r1 P4 K4 => ?_⟩⟩
        obtain ⟨y, hy⟩ : ∃ y, atI [V.int 1, .int (-1), .int 2, .int (0 - i)] r = some (.int y) := by
          have : r = 0 ∨ r = 1 ∨ r = 2 ∨ r = 3 := by omega
          rcases this with rfl | rfl | rfl | rfl
          · exact ⟨1, rfl⟩
          · exact ⟨-1, rfl⟩
          · exact ⟨2, rfl⟩
          · exact ⟨0 - i, rfl⟩
        exact ⟨L, _, _, .int y, rfl, rfl, SqL.of (K4 _ _ upd_same (P2.off hL)), hy, _, _, rfl, rfl, q _ _ (.int _) (P4.mono (by omega)) ((K02.trans (skp (same_upd hL))).trans K4) (.int _)⟩
      · cases hi : isTh "int" t with
        | false => exact iteF (iteF ⟨rfl, rfl⟩)
        | true =>
          have hb : isTh "bool" t = true := by
            rcases hn with h | h
            · rw [h] at hi
              cases hi
            · exact h
          refine iteT ⟨_, rfl, v, t, N, "bool", rfl, x2, by simp [tyL], _, rfl, ?_⟩
          rw [hb]
          exact iteF (iteF ⟨rfl, rfl⟩)
    rintro σ H'' ⟨rfl, rfl⟩
    exact ⟨_, rfl, PL, _, rfl, P2, by omega, fun H3 v' t' P3 K3 x3 => q _ _ t' (P3.mono (by omega)) (K02.trans K3) (x3.more (by omega))⟩
theorem ok_bent {f : Addr} {fd : FuncData} (F : Fun K "_law_bent" "_law_bent" s_law_bent f fd) (T : Bi mg) (c_law_draw : Cal P w K mg base 1 "_law_draw" ["_law_pool_here", "_law_many"] spDraw) (c_law_odd : Cal P w K mg base 2 "_law_odd" ["_law_pool_here"] (spOdd K))
    (g : mg "_law_bent" = some (.ref f)) (kp : PySem.W.keepIn K (.ref f) = true) (b : Binds K fd ["_law_pool_here", "_law_thing", "_law_deep"] []) : ∀ d : Nat, FnOk P w K mg base CX0 (2 + d) f fd ["_law_pool_here", "_law_thing", "_law_deep"] (spB K d)
  | 0 => ⟨fun _ _ _ _ h => h.elim, fun _ _ _ _ _ _ _ _ _ _ _ _ _ h => h.elim⟩
  | d + 1 => ok_bent1 F T c_law_draw c_law_odd ⟨f, fd, ok_bent F T c_law_draw c_law_odd g kp b d, g, kp, b⟩ (Nat.le_add_right 2 d)
end

/-! ### rows and names among things of any kind -/
abbrev sis_whole : Stmt := topS 23
theorem scis_whole : FnScope ["thing"] ["thing"] (defScope sis_whole) := ⟨rfl, rfl, rfl, by decide +kernel, rfl, by decide +kernel, by decide +kernel⟩
abbrev sis_number : Stmt := topS 24
theorem scis_number : FnScope ["thing", "low", "high"] ["thing", "low", "high"] (defScope sis_number) := ⟨rfl, rfl, rfl, by decide +kernel, rfl, by decide +kernel, by decide +kernel⟩
abbrev s_law_number : Stmt := topS 44
theorem sc_law_number : FnScope ["_law_thing", "_law_low", "_law_high"] ["_law_thing", "_law_low", "_law_high"] (defScope s_law_number) := ⟨rfl, rfl, rfl, by decide +kernel, rfl, by decide +kernel, by decide +kernel⟩
abbrev sis_row : Stmt := topS 25
theorem scis_row : FnScope ["thing", "least", "most"] ["thing", "least", "most"] (defScope sis_row) := ⟨rfl, rfl, rfl, by decide +kernel, rfl, by decide +kernel, by decide +kernel⟩
abbrev sis_name : Stmt := topS 26
theorem scis_name : FnScope ["thing", "sign"] ["thing"] (defScope sis_name) := ⟨rfl, rfl, rfl, by decide +kernel, rfl, by decide +kernel, by decide +kernel⟩
abbrev s_law_tuple : Stmt := topS 45
theorem sc_law_tuple : FnScope ["_law_thing", "_law_least", "_law_most"] ["_law_thing", "_law_least", "_law_most"] (defScope s_law_tuple) := ⟨rfl, rfl, rfl, by decide +kernel, rfl, by decide +kernel, by decide +kernel⟩
abbrev s_law_good_name : Stmt := topS 46
theorem sc_law_good_name : FnScope ["_law_thing", "_law_words", "_law_sign"] ["_law_thing"] (defScope s_law_good_name) := ⟨rfl, rfl, rfl, by decide +kernel, rfl, by decide +kernel, by decide +kernel⟩
def numB : Th → Int → Int → Bool
  | .int i, lo, hi => decide (lo ≤ i) && decide (i < hi)
  | _, _, _ => false
def wholeB : Th → Bool
  | .int _ => true
  | _ => false
section
variable {P : Program} {w : World} {K : PySem.W.Frag} {mg : Str → Option Value} {base : Heap}
theorem str_or {N : Nat} {H : Hp} {v : V} {t : Th} (x : TAt N K H v t) : (∃ z, v = .str z ∧ t = .str z ∧ z.length ≤ 100 ∧ ∀ c ∈ z.cps.toList, c < 1114112) ∨ (isTh "str" t = false ∧ nameB t = false) := by
  cases x with
  | str z h c => exact .inl ⟨z, rfl, rfl, h, c⟩
  | _ => exact .inr ⟨by simp [isTh, tyn], rfl⟩
theorem row_no {t : Th} {lo hi : Int} (h : isTh "tuple" t = false) : rowB t lo hi = false := by
  cases t <;> first | rfl | (simp [isTh, tyn] at h)
def spRowT (K : PySem.W.Frag) : Sp := fun vs H Q _ => ∃ (v : V) (t : Th) (N : Nat) (lo hi : Int), vs = [v, .int lo, .int hi] ∧ TAt N K H v t ∧ Q (.bl (rowB t lo hi)) H
theorem ok_rowT {f : Addr} {fd : FuncData} (F : Fun K "is_row" "is_row" sis_row f fd) (T : Bi mg) : FnOk P w K mg base CX0 1 f fd ["thing", "least", "most"] (spRowT K) := by
  refine F.ok scis_row (fun vs H Q E h => ?_) (fun cdv A outer s H vs Q E hr h => ?_)
  · obtain ⟨v, t, N, lo, hi, rfl, _⟩ := h
    rfl
  · obtain ⟨v, t, N, lo, hi, rfl, x, q⟩ := h
    refine ⟨_, (pss_one (ps_ret (pe_and (pe_callB call_isT (by rfl) T.isinstance (by decide +kernel) (pa_cons (pv 0) (pa_cons (pe_bltn (v := .ty "tuple") (u := .type "tuple") (by rfl) T.tuple (by decide +kernel) rfl) pa_nil))) (pe_one (pe_chain op_le op_le (pv 1) (pe_callB call_lenX (by rfl) T.len PySem.boot_len (pa_cons (pv 0) pa_nil)) (pv 2)))))), ?_⟩
    refine ⟨_, rfl, v, t, N, "tuple", rfl, x, by simp [tyL], _, rfl, ?_⟩
    rcases tup_or x with ⟨a, xs, ts, rfl, rfl, hx, hl, hall⟩ | ht
    · rw [show isTh "tuple" (.tup ts) = true by simp [isTh, tyn]]
      have q : Q (.bl (decide (lo ≤ ts.length) && decide ((ts.length : Int) ≤ hi))) H := q
      rw [← hall.len] at q
      refine iteT ⟨_, rfl, _, rfl, .inr ⟨a, xs, rfl, .inr hx, lo, _, rfl, rfl, _, rfl, ite2 (fun e => ?_) (fun e => ?_)⟩⟩
      · refine ⟨_, rfl, _, hi, rfl, rfl, ?_⟩
        rw [e, Bool.true_and] at q
        exact q
      · have e' : decide (lo ≤ (xs.length : Int)) = false := by simpa using e
        rw [e', Bool.false_and] at q
        exact q
    · rw [ht]
      rw [row_no ht] at q
      exact iteF q
theorem ok_ltupT {f : Addr} {fd : FuncData} (F : Fun K "_law_tuple" "_law_tuple" s_law_tuple f fd) (T : Bi mg) : FnOk P w K mg base CX0 1 f fd ["_law_thing", "_law_least", "_law_most"] (spRowT K) := by
  refine F.ok sc_law_tuple (fun vs H Q E h => ?_) (fun cdv A outer s H vs Q E hr h => ?_)
  · obtain ⟨v, t, N, lo, hi, rfl, _⟩ := h
    rfl
  · obtain ⟨v, t, N, lo, hi, rfl, x, q⟩ := h
    refine ⟨_, (pss_one (ps_ret (pe_and (pe_callB call_isT (by rfl) T.isinstance (by decide +kernel) (pa_cons (pv 0) (pa_cons (pe_bltn (v := .ty "tuple") (u := .type "tuple") (by rfl) T.tuple (by decide +kernel) rfl) pa_nil))) (pe_one (pe_chain op_le op_le (pv 1) (pe_callB call_lenX (by rfl) T.len PySem.boot_len (pa_cons (pv 0) pa_nil)) (pv 2)))))), ?_⟩
    refine ⟨_, rfl, v, t, N, "tuple", rfl, x, by simp [tyL], _, rfl, ?_⟩
    rcases tup_or x with ⟨a, xs, ts, rfl, rfl, hx, hl, hall⟩ | ht
    · rw [show isTh "tuple" (.tup ts) = true by simp [isTh, tyn]]
      have q : Q (.bl (decide (lo ≤ ts.length) && decide ((ts.length : Int) ≤ hi))) H := q
      rw [← hall.len] at q
      refine iteT ⟨_, rfl, _, rfl, .inr ⟨a, xs, rfl, .inr hx, lo, _, rfl, rfl, _, rfl, ite2 (fun e => ?_) (fun e => ?_)⟩⟩
      · refine ⟨_, rfl, _, hi, rfl, rfl, ?_⟩
        rw [e, Bool.true_and] at q
        exact q
      · have e' : decide (lo ≤ (xs.length : Int)) = false := by simpa using e
        rw [e', Bool.false_and] at q
        exact q
    · rw [ht]
      rw [row_no ht] at q
      exact iteF q
theorem name_eq (z : Str) : nameB (.str z) = (decide (1 ≤ z.length) && decide (z.length ≤ 8) && decide (z ∉ wordsL) && z.cps.toList.all fun c => decide (c ∈ lettersS.cps.toList)) := rfl
theorem name_len {z : Str} (h : ¬ (1 ≤ z.length ∧ z.length ≤ 8)) : nameB (.str z) = false := by
  rw [name_eq]
  by_cases h1 : 1 ≤ z.length
  · rw [decide_eq_true h1, decide_eq_false fun h2 => h ⟨h1, h2⟩]
    rfl
  · rw [decide_eq_false h1]
    rfl
theorem name_word {z : Str} (h : z ∈ wordsL) : nameB (.str z) = false := by
  rw [name_eq]
  rw [decide_eq_false (p := z ∉ wordsL) (fun k => k h), Bool.and_false]
  rfl
theorem name_rest {z : Str} (h1 : 1 ≤ z.length) (h2 : z.length ≤ 8) (h3 : z ∉ wordsL) : nameB (.str z) = z.cps.toList.all fun c => decide (c ∈ lettersS.cps.toList) := by
  rw [name_eq]
  rw [decide_eq_true h1, decide_eq_true h2, decide_eq_true h3]
  rfl
theorem all_drop {z : Str} {i c : Nat} (h : z.cps[i]? = some c) : (z.cps.toList.drop i).all (fun c => decide (c ∈ lettersS.cps.toList)) = (decide (c ∈ lettersS.cps.toList) && (z.cps.toList.drop (i + 1)).all fun c => decide (c ∈ lettersS.cps.toList)) := by
  rw [← Array.getElem?_toList] at h
  obtain ⟨hi, rfl⟩ := List.getElem?_eq_some_iff.mp h
  rw [List.drop_eq_getElem_cons hi]
  rfl
def spNameT (K : PySem.W.Frag) : Sp := fun vs H Q _ => ∃ (v : V) (t : Th) (N : Nat), vs = [v] ∧ TAt N K H v t ∧ ∀ H', Same H H' → Q (.bl (nameB t)) H'
theorem ok_nameT {f : Addr} {fd : FuncData} (F : Fun K "is_name" "is_name" sis_name f fd) (T : Bi mg) (W : Wd K mg) : FnOk P w K mg base CX0 1 f fd ["thing"] (spNameT K) := by
  refine F.ok scis_name (fun vs H Q E h => ?_) (fun cdv A outer s H vs Q E hr h => ?_)
  · obtain ⟨v, t, N, rfl, _⟩ := h
    rfl
  · obtain ⟨v, t, N, rfl, x, q⟩ := h
    have q := q H (Same.refl _)
    refine ⟨_, (pss_cons (ps_if (PW.pt (pw_or (pt_not (pt_val (pe_callB call_isT (by rfl) T.isinstance (by decide +kernel) (pa_cons (pv 0) (pa_cons (pe_bltn (v := .ty "str") (u := .type "str") (by rfl) T.str (by decide +kernel) rfl) pa_nil))))) (pw_or (pt_not (pt_chain op_le op_le pe_int (pe_callB call_lenX (by rfl) T.len PySem.boot_len (pa_cons (pv 0) pa_nil)) pe_int)) (pw_or1 (pt_cmpR op_in_seq (pv 0) (pe_glob rfl W.gWORDS W.rWORDS) (by rfl))))))
        (pss_one (ps_ret pe_bl))
        pss_nil)
      (pss_cons (ps_for PassesOwn.never rfl (pi_str (pv 0)) (pg_name (i := 1) scis_name.nd rfl (.inl rfl))
        (pss_one (ps_if (pt_cmpR op_notIn_sign (pv 1) (pe_glob rfl W.gLETTERS W.rLETTERS) (by rfl))
          (pss_one (ps_ret pe_bl))
          pss_nil)))
      (pss_one (ps_ret pe_bl)))), ?_⟩
    refine ⟨_, rfl, v, t, N, "str", rfl, x, by simp [tyL], _, rfl, ?_⟩
    rcases str_or x with ⟨z, rfl, rfl, hz, _⟩ | ⟨ht, hn⟩
    · rw [show isTh "str" (.str z) = true by simp [isTh, tyn]]
      refine iteF ⟨_, rfl, .inl ⟨z, rfl, szOk (by omega), 1, _, rfl, rfl, _, rfl, ite2 (fun e => ?_) (fun e => ?_)⟩⟩
      · have h1 : 1 ≤ z.length := by
          have := of_decide_eq_true e
          omega
        refine ⟨_, _, rfl, rfl, _, rfl, ite2 (fun e2 => ?_) (fun e2 => ?_)⟩
        · rw [name_len fun h => notdec e2 (by omega)] at q
          exact iteT q
        · have h2 : z.length ≤ 8 := by
            have := dec_of e2
            omega
          refine ⟨_, rfl, _, _, rfl, .inr (W.sW _), rfl, flat_str _, _, rfl, ?_⟩
          rw [inV_str]
          refine ite2 (fun e3 => ?_) (fun e3 => ?_)
          · rw [name_word (of_decide_eq_true e3)] at q
            exact q
          have h3 : z ∉ wordsL := fun k => e3 (decide_eq_true k)
          rw [name_rest h1 h2 h3] at q
          refine ⟨_, rfl, z, rfl, for_it walk_str (fun i σ H' => ∃ y, σ = [some (.str z), y] ∧ H' = H ∧ z.cps.toList.all (fun c => decide (c ∈ lettersS.cps.toList)) = (z.cps.toList.drop i).all fun c => decide (c ∈ lettersS.cps.toList)) ⟨_, rfl, rfl, rfl⟩ (fun _ _ _ _ _ => trivial) ?_ ?_⟩
          · rintro i x σ H1 H2 hi ⟨y, rfl, rfl, e4⟩ ⟨rfl, c, hc, rfl⟩
            rw [all_drop hc] at e4
            refine ⟨_, rfl, c, lettersS, rfl, rfl, _, rfl, ite2 (fun e5 => ?_) (fun e5 => ⟨_, rfl, rfl, ?_⟩)⟩
            · rw [decide_eq_false (notdec e5), Bool.false_and] at e4
              rw [e4] at q
              exact q
            · rw [e4, decide_eq_true (dec_of e5), Bool.true_and]
          · rintro σ H1 ⟨y, rfl, rfl, e4⟩
            rw [List.drop_of_length_le (by rw [Array.length_toList]; exact Nat.le_refl _)] at e4
            rw [e4] at q
            exact q
      · rw [name_len fun h => e (decide_eq_true (by omega))] at q
        exact ⟨_, rfl, iteT q⟩
    · rw [ht]
      rw [hn] at q
      exact iteT (iteT q)
theorem dpx_strs {H : Hp} : ∀ l : List Str, DpAll K H (l.map V.str) (l.map PyData.str)
  | [] => .nil
  | x :: r => .cons (.str x) (dpx_strs r)
theorem lay_strs : ∀ l : List Str, (∀ x ∈ l, PyData.canLay0 (.str x) = true) → PyData.canLayAll0 (l.map PyData.str) = true
  | [], _ => rfl
  | x :: r, h => by
    show (PyData.canLay0 (.str x) && PyData.canLayAll0 (r.map PyData.str)) = true
    rw [lay_strs r fun y hy => h y (List.mem_cons_of_mem _ hy), h x List.mem_cons_self]
    rfl
theorem dep_strs : ∀ l : List Str, PyData.depthAll (l.map PyData.str) = 0
  | [] => rfl
  | x :: r => by
    show max (PyData.depth (.str x)) (PyData.depthAll (r.map PyData.str)) = 0
    rw [dep_strs r]
    rfl
theorem shaped_strs {l : List Str} (h : ∀ x ∈ l, PyData.canLay0 (.str x) = true) : SeqAt.shaped (.list (l.map PyData.str)) = true := by
  unfold SeqAt.shaped
  rw [show PyData.canLay0 (.list (l.map PyData.str)) = true from lay_strs l h, show PyData.depth (.list (l.map PyData.str)) = 0 + 1 by rw [← dep_strs l] <;> rfl]
  rfl
theorem eqv_nilS (l : List Str) : PyData.eqv (.list (l.map PyData.str)) (.list (([] : List Str).map PyData.str)) = decide (l = []) := by
  cases l with
  | nil => rfl
  | cons x r => rfl
theorem sign_ok {c : Nat} (h : c < 1114112) : PyData.canLay0 (.str ⟨#[c]⟩) = true := by
  have e : (#[c] : Array Nat).all (· < 0x110000) = true := by simp [h]
  exact e
theorem ok_goodT {f : Addr} {fd : FuncData} (F : Fun K "_law_good_name" "_law_good_name" s_law_good_name f fd) (T : Bi mg) : FnOk P w K mg base CX0 1 f fd ["_law_thing"] (spNameT K) := by
  refine F.ok sc_law_good_name (fun vs H Q E h => ?_) (fun cdv A outer s H vs Q E hr h => ?_)
  · obtain ⟨v, t, N, rfl, _⟩ := h
    rfl
  · obtain ⟨v, t, N, rfl, x, q⟩ := h
    refine ⟨_, (pss_cons (ps_set (i := 1) sc_law_good_name.nd rfl (.inl rfl) (pe_lst (pa_cons pe_str (pa_cons pe_str (pa_cons pe_str (pa_cons pe_str (pa_cons pe_str (pa_cons pe_str (pa_cons pe_str (pa_cons pe_str (pa_cons pe_str (pa_cons pe_str (pa_cons pe_str (pa_cons pe_str (pa_cons pe_str pa_nil)))))))))))))))
      (pss_cons (ps_if (PW.pt (pw_or (pt_not (pt_val (pe_callB call_isT (by rfl) T.isinstance (by decide +kernel) (pa_cons (pv 0) (pa_cons (pe_bltn (v := .ty "str") (u := .type "str") (by rfl) T.str (by decide +kernel) rfl) pa_nil))))) (pw_or (pt_cmpR op_lt (pe_callB call_lenX (by rfl) T.len PySem.boot_len (pa_cons (pv 0) pa_nil)) pe_int (nomark _)) (pw_or (pt_cmpR op_gt (pe_callB call_lenX (by rfl) T.len PySem.boot_len (pa_cons (pv 0) pa_nil)) pe_int (nomark _)) (pw_or1 (pt_cmpR op_in_seq (pv 0) (pv 1) (by rfl)))))))
        (pss_one (ps_ret pe_bl))
        pss_nil)
      (pss_one (ps_ret (pe_cmpR (op_eqD hr.units) (pe_lc (own := [("_law_sign", 2)]) (g := gName 2) rfl sc_law_good_name.nd (pi_str (pv 0)) (blkOk_by (own := [("_law_sign", 2)]) (N := ["_law_thing", "_law_words", "_law_sign"]) (sc := defScope s_law_good_name) (by decide +kernel)) (fun _ _ _ _ _ => (pg_name (i := 2) sc_law_good_name.nd rfl (.inl rfl))) (fun _ _ _ _ _ => (pts_one (pt_cmpR op_notIn_sign (pv 2) pe_str (by rfl)))) (fun _ _ _ _ _ => (pv 2))) (pe_lst pa_nil) (nomark _)))))), ?_⟩
    refine ⟨by show 13 ≤ sizeLine; decide, fun l hl => ?_⟩
    have s0 : Same H (L2.upd H l (.lst (wordsL.map V.str))) := same_upd hl
    have hl0 : (L2.upd H l (.lst (wordsL.map V.str))) l = some (.lst (wordsL.map V.str)) := upd_same
    refine ⟨_, rfl, v, t, N, "str", rfl, x.same s0, by simp [tyL], _, rfl, ?_⟩
    rcases str_or x with ⟨z, rfl, rfl, hz, hcs⟩ | ⟨ht, hn⟩
    · rw [show isTh "str" (.str z) = true by simp [isTh, tyn]]
      refine iteF ⟨_, rfl, .inl ⟨z, rfl, szOk (by omega), _, _, rfl, rfl, _, rfl, ite2 (fun e => ?_) (fun e => ?_)⟩⟩
      · have := q _ s0
        rw [name_len fun h => by have := of_decide_eq_true e; omega] at this
        exact iteT this
      · refine ⟨_, rfl, .inl ⟨z, rfl, szOk (by omega), _, _, rfl, rfl, _, rfl, ite2 (fun e2 => ?_) (fun e2 => ?_)⟩⟩
        · have := q _ s0
          rw [name_len fun h => by have := of_decide_eq_true e2; omega] at this
          exact iteT this
        · have h1 : 1 ≤ z.length := by
            have : ¬ ((z.length : Int) < 1) := fun k => e (decide_eq_true k)
            omega
          have h2 : z.length ≤ 8 := by
            have : ¬ ((8 : Int) < (z.length : Int)) := fun k => e2 (decide_eq_true k)
            omega
          refine ⟨_, rfl, _, rfl, l, _, rfl, .inl (SqL.of hl0), rfl, flat_str _, _, rfl, ?_⟩
          rw [inV_str]
          refine ite2 (fun e3 => ?_) (fun e3 => ?_)
          · have := q _ s0
            rw [name_word (of_decide_eq_true e3)] at this
            exact this
          have h3 : z ∉ wordsL := fun k => e3 (decide_eq_true k)
          refine ⟨_, rfl, z, rfl, fun D hD => lc_it walk_str (fun i H' => ∃ gs : List Str, Same H H' ∧ H' D = some (.lst (gs.map V.str)) ∧ gs.length ≤ i ∧ (∀ x ∈ gs, PyData.canLay0 (.str x) = true) ∧ (decide (gs = []) && (z.cps.toList.drop i).all (fun c => decide (c ∈ lettersS.cps.toList))) = z.cps.toList.all fun c => decide (c ∈ lettersS.cps.toList))
            ⟨[], s0.trans (same_upd hD), upd_same, Nat.le_refl _, fun _ h => absurd h List.not_mem_nil, rfl⟩ (fun _ _ _ _ => trivial) ?_ ?_⟩
          · have hDH : H D = none := by
              cases e : H D with
              | none => rfl
              | some o =>
                exact nomatch hD.symm.trans (s0 _ _ e)
            rintro i x H1 H2 hi ⟨gs, s1, hD1, lg, ok, eg⟩ ⟨rfl, c, hc, rfl⟩
            have hc' : c ∈ z.cps.toList := by
              rw [← Array.getElem?_toList] at hc
              exact List.mem_of_getElem? hc
            rw [all_drop hc] at eg
            refine ⟨rfl, _, rfl, c, lettersS, rfl, rfl, _, rfl, ite2 (fun e5 => ⟨_, rfl, _, hD1, szLt (by rw [List.length_map]; have : z.cps.size = z.length := rfl; omega), gs ++ [⟨#[c]⟩], smut s1 hDH, ?_, ?_, ?_, ?_⟩) (fun e5 => ⟨gs, s1, hD1, by omega, ok, ?_⟩)⟩
            · rw [upd_same, List.map_append]
              rfl
            · rw [List.length_append]
              show gs.length + 1 ≤ i + 1
              omega
            · intro y hy
              rcases List.mem_append.mp hy with hy | hy
              · exact ok y hy
              · rw [List.mem_singleton.mp hy]
                exact sign_ok (hcs c hc')
            · rw [decide_eq_false (notdec e5), Bool.false_and, Bool.and_false] at eg
              rw [← eg, decide_eq_false (by simp), Bool.false_and]
            · rw [decide_eq_true (dec_of e5), Bool.true_and] at eg
              exact eg
          · rintro H1 ⟨gs, s1, hD1, lg, ok, eg⟩
            rw [List.drop_of_length_le (by rw [Array.length_toList]; exact Nat.le_refl _)] at eg
            refine ⟨by show 0 ≤ sizeLine; decide, fun u hu => ⟨_, _, .lst (SqL.of (same_upd hu _ _ hD1)) (dpx_strs gs), .lst (SqL.of upd_same) (dpx_strs []), shaped_strs ok, shaped_strs (fun _ h => absurd h List.not_mem_nil), ?_⟩⟩
            rw [eqv_nilS]
            have := q _ (s1.trans (same_upd (o := .lst []) hu))
            rw [name_rest h1 h2 h3, ← eg] at this
            simpa using this
    · rw [ht]
      have := q _ s0
      rw [hn] at this
      exact iteT (iteT this)
def spWholeT (K : PySem.W.Frag) : Sp := fun vs H Q _ => ∃ (v : V) (t : Th) (N : Nat), vs = [v] ∧ TAt N K H v t ∧ Q (.bl (wholeB t)) H
theorem ok_wholeT {f : Addr} {fd : FuncData} (F : Fun K "is_whole" "is_whole" sis_whole f fd) (T : Bi mg) : FnOk P w K mg base CX0 1 f fd ["thing"] (spWholeT K) := by
  refine F.ok scis_whole (fun vs H Q E h => ?_) (fun cdv A outer s H vs Q E hr h => ?_)
  · obtain ⟨v, t, N, rfl, _⟩ := h
    rfl
  · obtain ⟨v, t, N, rfl, x, q⟩ := h
    refine ⟨_, (pss_one (ps_ret (pe_and (pe_callB call_isT (by rfl) T.isinstance (by decide +kernel) (pa_cons (pv 0) (pa_cons (pe_bltn (v := .ty "int") (u := .type "int") (by rfl) T.int (by decide +kernel) rfl) pa_nil))) (pe_one (pe_not (pe_callB call_isT (by rfl) T.isinstance (by decide +kernel) (pa_cons (pv 0) (pa_cons (pe_bltn (v := .ty "bool") (u := .type "bool") (by rfl) T.bool (by decide +kernel) rfl) pa_nil)))))))), ?_⟩
    refine ⟨_, rfl, v, t, N, "int", rfl, x, by simp [tyL], _, rfl, ?_⟩
    cases t with
    | int i => exact iteT ⟨_, rfl, v, .int i, N, "bool", rfl, x, by simp [tyL], _, rfl, q⟩
    | bl b => exact iteT ⟨_, rfl, v, .bl b, N, "bool", rfl, x, by simp [tyL], _, rfl, q⟩
    | _ => exact iteF q
def spNumT (K : PySem.W.Frag) : Sp := fun vs H Q _ => ∃ (v : V) (t : Th) (N : Nat) (lo hi : Int), vs = [v, .int lo, .int hi] ∧ TAt N K H v t ∧ Q (.bl (numB t lo hi)) H
theorem int_v {N : Nat} {H : Hp} {v : V} {i : Int} (x : TAt N K H v (.int i)) : v = .int i := by
  cases x
  rfl
theorem ok_numT {f : Addr} {fd : FuncData} (F : Fun K "is_number" "is_number" sis_number f fd) (T : Bi mg) (cis_whole : Cal P w K mg base 1 "is_whole" ["thing"] (spWholeT K)) : FnOk P w K mg base CX0 2 f fd ["thing", "low", "high"] (spNumT K) := by
  refine F.ok scis_number (fun vs H Q E h => ?_) (fun cdv A outer s H vs Q E hr h => ?_)
  · obtain ⟨v, t, N, lo, hi, rfl, _⟩ := h
    rfl
  · obtain ⟨v, t, N, lo, hi, rfl, x, q⟩ := h
    refine ⟨_, (pss_one (ps_ret (pe_and (pe_call cis_whole.G hr (by rfl) cis_whole.g cis_whole.kp cis_whole.b .nil pass0 (pa_cons (pv 0) pa_nil)) (pe_one (pe_chain op_le op_lt (pv 1) (pv 0) (pv 2)))))), ?_⟩
    refine ⟨_, rfl, v, t, N, rfl, x, _, rfl, ?_⟩
    cases t with
    | int i =>
      obtain rfl := int_v x
      refine iteT ⟨_, rfl, _, rfl, lo, i, rfl, rfl, _, rfl, ite2 (fun e => ?_) (fun e => ?_)⟩
      · refine ⟨_, rfl, i, hi, rfl, rfl, ?_⟩
        have q : Q (.bl (decide (lo ≤ i) && decide (i < hi))) H := q
        rw [e, Bool.true_and] at q
        exact q
      · have q : Q (.bl (decide (lo ≤ i) && decide (i < hi))) H := q
        have e' : decide (lo ≤ i) = false := by simpa using e
        rw [e', Bool.false_and] at q
        exact q
    | _ => exact iteF q
theorem ok_lnumT {f : Addr} {fd : FuncData} (F : Fun K "_law_number" "_law_number" s_law_number f fd) (T : Bi mg) : FnOk P w K mg base CX0 1 f fd ["_law_thing", "_law_low", "_law_high"] (spNumT K) := by
  refine F.ok sc_law_number (fun vs H Q E h => ?_) (fun cdv A outer s H vs Q E hr h => ?_)
  · obtain ⟨v, t, N, lo, hi, rfl, _⟩ := h
    rfl
  · obtain ⟨v, t, N, lo, hi, rfl, x, q⟩ := h
    refine ⟨_, (pss_one (ps_ret (pe_and (pe_callB call_isT (by rfl) T.isinstance (by decide +kernel) (pa_cons (pv 0) (pa_cons (pe_bltn (v := .ty "int") (u := .type "int") (by rfl) T.int (by decide +kernel) rfl) pa_nil))) (pe_and (pe_not (pe_callB call_isT (by rfl) T.isinstance (by decide +kernel) (pa_cons (pv 0) (pa_cons (pe_bltn (v := .ty "bool") (u := .type "bool") (by rfl) T.bool (by decide +kernel) rfl) pa_nil)))) (pe_one (pe_chain op_le op_lt (pv 1) (pv 0) (pv 2))))))), ?_⟩
    refine ⟨_, rfl, v, t, N, "int", rfl, x, by simp [tyL], _, rfl, ?_⟩
    cases t with
    | int i =>
      obtain rfl := int_v x
      refine iteT ⟨_, rfl, _, .int i, N, "bool", rfl, x, by simp [tyL], _, rfl, true, rfl, iteT ⟨_, rfl, _, rfl, lo, i, rfl, rfl, _, rfl, ite2 (fun e => ?_) (fun e => ?_)⟩⟩
      · refine ⟨_, rfl, i, hi, rfl, rfl, ?_⟩
        have q : Q (.bl (decide (lo ≤ i) && decide (i < hi))) H := q
        rw [e, Bool.true_and] at q
        exact q
      · have q : Q (.bl (decide (lo ≤ i) && decide (i < hi))) H := q
        have e' : decide (lo ≤ i) = false := by simpa using e
        rw [e', Bool.false_and] at q
        exact q
    | bl b => exact iteT ⟨_, rfl, v, .bl b, N, "bool", rfl, x, by simp [tyL], _, rfl, false, rfl, iteF q⟩
    | _ => exact iteF q
end

/-! ### a def that is handed the caught error -/
structure XSub (K : PySem.W.Frag) (mg : Str → Option Value) (R : Addr) (nm : Str) (b : Bool) where
  C : Addr
  x : XCls K mg nm C
  s : PySem.W.subIn K (.ref R) (.ref C) = some b
namespace KND
open PySem PySem.Spec PyProof.Rows L2
/-- its one argument is the error that is handled, of the class D -/
structure FnE (P : Program) (w : World) (K : PySem.W.Frag) (mg : Str → Option Value) (base : Heap) (k : Nat) (f : Addr) (fd : FuncData) (ps : List Str) (D : Addr) (sp : Hp → VK → Prop) : Prop where
  len : ps.length = 1
  run : ∀ (A : Around) (outer : List Env) (s : Shared) (H : Hp) (args : Args) (a : Addr) (oe : Obj) (Q : VK), L2H.RoomH k A → L2H.PinOk outer H s (a, oe) → Zc (.ref D) none oe → (∃ vs, oe.data = .fields vs) → Env0 P w K mg base A outer s H →
    BindsTo s fd args (ps.zip [.ref a]) → sp H Q → codeAny (model P w) A (.call (.ref f) args) (CR CX0 outer P w H s Q E0) s
structure CalE (P : Program) (w : World) (K : PySem.W.Frag) (mg : Str → Option Value) (base : Heap) (k : Nat) (x : Str) (ps : List Str) (D : Addr) (sp : Hp → VK → Prop) where
  f : Addr
  fd : FuncData
  G : FnE P w K mg base k f fd ps D sp
  g : mg x = some (.ref f)
  kp : PySem.W.keepIn K (.ref f) = true
  b : Binds K fd ps []
theorem room_mark {k : Nat} {A : Around} {x : Option Value} (r : Room k A) : L2H.RoomH k (A.mark x) := ⟨r.dp, r.un⟩
section
variable {P : Program} {w : World} {K : PySem.W.Frag} {mg : Str → Option Value} {base : Heap}
theorem okE {x qual : Str} {st : Stmt} {f : Addr} {fd : FuncData} {N ps : List Str} {k : Nat} {D : Addr} {sp : Hp → VK → Prop} (F : Fun K x qual st f fd) (S : FnScope N ps (defScope st)) (len : ps.length = 1)
    (hbody : ∀ (cdv : Value) (A : Around) (outer : List Env) (s : Shared) (H : Hp) (a : Addr) (oe : Obj) (Q : VK), Zc (.ref D) none oe → (∃ vs, oe.data = .fields vs) → sp H Q →
      ∃ t, PSs (L2H.cxH CX0 P w K mg base N qual (defScope st) f cdv A outer s H E0 (a, oe)) (defBody st) t ∧ t { nx := fun _ H' => Q .non H', rt := Q } (start N [.ref a]) H) : FnE P w K mg base (k + 1) f fd ps D sp := by
  obtain ⟨oc, od, kV, doc, pm, an, cdv, ct, osl, rfl, lk, hcd⟩ := F.ex
  refine ⟨len, fun A outer s H args a oe Q hr hpin hz hf e0 hb hsp => ?_⟩
  have KX : K.In s.heap := e0.mod.kin.keeps fun b o e => (e0.bs b o e).1
  have r1 : Vals [V.ref a] [Value.ref a] := .cons rfl .nil
  have hkind : ∀ y ∈ ps.zip [Value.ref a], (defScope st).names.lookup y.1 = some .local ∨ ((defScope st).names.lookup y.1 = some .cell ∧ ((cellsFrom (s.heap.objs.size + 1) (defScope st).names []).lookup y.1).isSome = true) := fun ⟨n, v⟩ hy =>
    (S.par n (List.of_mem_zip hy).1).elim .inl fun q => .inr ⟨q, PySem.W.cellsFrom_some _ _ _ (.inl q)⟩
  refine codeAny_call_function hr.depth (KX _ _ lk) rfl S.co S.gen rfl (PySem.W.codeRec_of KX hcd) (hb _ _ _ _ ?_)
  refine wpAny_newFunctionEnv_cells S.kind hkind fun env he s1 x => ?_
  subst he
  refine ⟨(e0.mod.nolimit.keeps fun b o e => (e0.bs b o e).1).keeps x.toInCall.keep, codeAny_func ?_⟩
  obtain ⟨t, ht, hq⟩ := hbody cdv A outer s H a oe Q hz hf hsp
  refine wpAny_mono (ht.run [] s1 (start N [V.ref a]) H _ (L2H.inv_startH S hpin e0 (by rw [len]; rfl) r1 x) hq) (fun fl s' hs => ?_) fun _ _ hs => hs
  cases fl with
  | ret u =>
    obtain ⟨v, σ', H', J, rv, q⟩ := hs
    exact ⟨v, H', J.os, J.bare, J.base, J.hok, rv, q⟩
  | next =>
    obtain ⟨σ', H', J, q⟩ := hs
    exact ⟨V.non, H', J.os, J.bare, J.base, J.hok, rfl, q⟩
  | brk => exact hs.elim fun _ h => h.elim fun _ h => False.elim h.2
  | cont => exact hs.elim fun _ h => h.elim fun _ h => False.elim h.2
end
section
variable {X : Cx} {a D : Addr} {oe : Obj}
/-- isinstance(e, c), e the error that the context bears -/
theorem call_isP (C : ExcC X.K D) (hm : (a, oe) ∈ X.pn) (hz : Zc (.ref D) none oe) (hf : ∃ vs, oe.data = .fields vs) : CallR X (.builtin "isinstance") (rIsE X.K D a) := by
  intro pins s σ H xs us Q I r h
  obtain ⟨c, cv, b, rfl, hcv, e, q⟩ := h
  cases r with
  | cons rx rr => cases rr with
    | cons rt rr =>
      cases rr
      cases rx
      obtain rfl := hcv _ rt
      obtain ⟨vs, hv⟩ := hf
      have J : PySem.W.InstAt s.heap a oe D none := by
        have hget := (I.pin (a, oe) (List.mem_append_left _ hm)).1
        obtain ⟨oc, od, oda, osl⟩ := oe
        obtain ⟨h1, h2⟩ := hz
        dsimp only at h1 h2 hv
        subst h1 h2 hv
        exact ⟨hget, rfl, rfl, trivial⟩
      exact PySem.W.kia_one (PySem.W.handS_kitx_exc C.hg C.hk C.hs C.hd C.ha C.hn C.ht C.hm) I.kIn J e (fun z => nomatch z) fun tk => ⟨.bl b, H, I.kept (t' := tk) fun _ _ z => z, rfl, q⟩
variable {k : Nat} {f : Addr} {fd : FuncData} {ps : List Str} {sp : Hp → VK → Prop} {x : Str} {p pos : Pos} {e : Expr} {t : TA}
/-- f(e), e the error that the context bears -/
theorem pe_callE (F : FnE X.prog X.w X.K X.mg X.base k f fd ps D sp) (hr : L2H.RoomH k X.A) (hg : Gl X x) (hm : X.mg x = some (.ref f)) (hk : PySem.W.keepIn X.K (.ref f) = true) (hb : Binds X.K fd ps []) (hp : (a, oe) ∈ X.pn) (hz : Zc (.ref D) none oe) (hf : ∃ vs, oe.data = .fields vs)
    (ha : L2.PA X [e] t) (hdb : (x == ("__debug__" : Str)) = false := by decide) (he : starEach [e] X.env = [(false, eval e X.env)] := by rfl) :
    PE X (.Call (.Name x p) [e] [] pos) (fun σ H Q => t σ H fun vs H1 => vs = [.ref a] ∧ sp H1 Q) := by
  refine ⟨fun pins s σ H Q I h => ?_⟩
  refine wpAny_Call_Name_kw (ld_glob I hg hm ?_ hdb)
  refine PySem.W.callWith_K (h₀ := X.base) I.ok.mod.kin hk (thn (ha.run pos pins s σ H _ I h) fun us s1 ⟨vs, H1, I1, r, ev, q⟩ => ⟨I1.kIn, ?_⟩) he rfl
  subst ev
  cases r with
  | cons rx rr =>
    cases rr
    cases rx
    have b := hb s1 [Value.ref a] I1.kIn (by rw [List.append_nil, F.len]; rfl)
    rw [List.append_nil] at b
    have P1 := I1.pin (a, oe) (List.mem_append_left _ hp)
    have hpin : L2H.PinOk X.stack H1 s1 (a, oe) := ⟨P1.1, P1.2.1, fun hm => (List.mem_cons.mp (I1.stkSub a hm)).elim P1.2.2.1 P1.2.2.2.1, P1.2.2.2.2⟩
    refine wpAny_call (codeAny_mono (F.run X.A X.stack s1 H1 ⟨[.ref a], []⟩ a oe Q hr hpin hz hf I1.env0 b q) fun r s' hq => ?_)
    cases r with
    | error e => exact False.elim hq
    | ok fl => cases fl with
      | ret u => exact I1.after hq
      | next => exact False.elim hq
      | brk => exact False.elim hq
      | cont => exact False.elim hq
/-- x is b, x perhaps None -/
theorem op_isV : OpR X (compareOp .Is) (fun x y H Q => ∃ b : Bool, y = .bl b ∧ ((x = .non ∧ Q (.bl false) H) ∨ ∃ a, x = .bl a ∧ Q (.bl (decide (a = b))) H)) := by
  intro pins s σ H x y v u Q I rx ry h
  obtain ⟨b, rfl, ⟨rfl, q⟩ | ⟨a, rfl, q⟩⟩ := h
  · cases (show v = Value.none from rx)
    cases (show u = Value.bool b from ry)
    exact wpAny_is_other rfl (fun z => by cases z) ⟨.bl false, H, I, rfl, q⟩
  · exact op_is_bl pins s σ H _ _ v u Q I rx ry ⟨a, b, rfl, rfl, q⟩
end
end KND

/-! ### an own error whose __init__ is written, its field, its kinds -/
structure XIni (K : PySem.W.Frag) (mg : Str → Option Value) (nR : Str) where
  R : Addr
  T : Addr
  fI : Addr
  xR : XCls K mg nR R
  xT : XCls K mg "TreeError" T
  E : ExcC K R
  s : PySem.W.subIn K (.ref R) (.ref R) = some true
  v : PySem.W.subIn K (.ref R) (.type "ValueError") = some true
  sT : PySem.W.subIn K (.ref R) (.ref T) = some true
  O : OexC K R
  iC : PySem.W.findIn K (.ref R) "__init__" = some (some (.ref fI))
  tI : PySem.W.typeIn K (.ref fI) = some (.type "function")
  no : PySem.W.findIn K (.ref R) "row" = some none
  rd : PySem.W.readsIn K T (.type "type") = true
  ga : PySem.W.specialIn K (.ref T) "__getattribute__" = some (some (.builtin "type.__getattribute__"))
  ci : PySem.W.findCls K (.ref T) (.type "type") "__init__" = some (.val (.builtin "ValueError.__init__"))
theorem XIni.xf {K : PySem.W.Frag} {mg : Str → Option Value} {nR : Str} (S : XIni K mg nR) : XfC K S.R := ⟨S.E.hg, S.E.hk, S.E.hs, S.E.hd⟩
theorem XIni.kitV {K : PySem.W.Frag} {mg : Str → Option Value} {nR : Str} (S : XIni K mg nR) : PySem.W.kitOne K (.ref S.R) (.type "ValueError") = some true := by
  unfold PySem.W.kitOne PySem.W.kitCls
  rw [if_neg (by intro q; exact absurd (eq_of_beq q) (by intro z; cases z))]
  change (if PySem.W.kitMeta "ValueError" = true then _ else _) = _
  rw [if_pos (by decide +kernel)]
  exact S.v
theorem XIni.kit {K : PySem.W.Frag} {mg : Str → Option Value} {nR nm : Str} {b : Bool} (S : XIni K mg nR) (y : XSub K mg S.R nm b) : PySem.W.kitOne K (.ref S.R) (.ref y.C) = some b := by
  have e := y.x.exm y.s
  unfold PySem.W.exmOne at e
  rw [if_pos (by rw [y.x.b] <;> rfl)] at e
  unfold PySem.W.kitOne
  by_cases q : (Value.ref S.R == Value.ref y.C) = true
  · rw [if_pos q]
    have q' : S.R = y.C := Value.ref.inj (eq_of_beq q)
    have h := y.s
    rw [← q', S.s] at h
    exact h
  · rw [if_neg q]
    exact e
namespace XI
open PySem PySem.Spec PyProof.Rows L2
section
variable {X : Cx} {o e : Expr} {es : List Expr} {ta : TA} {T : Addr} {mc : Value} {x : Str} {p1 p2 pos : Pos}
/-- T.__init__(self, ..), T a class of the program that has ValueError's -/
theorem pe_xinit {pl : Sem Bool} (hg : Gl X x) (hm : X.mg x = some (.ref T)) (rd : PySem.W.readsIn X.K T mc = true) (ga : PySem.W.specialIn X.K (.ref T) "__getattribute__" = some (some (.builtin "type.__getattribute__")))
    (ci : PySem.W.findCls X.K (.ref T) mc "__init__" = some (.val (.builtin "ValueError.__init__"))) (ha : L2.PA X (e :: es) ta) (hdb : (x == ("__debug__" : Str)) = false := by decide)
    (hc : eval (.Call (.Attribute (.Name x p1) "__init__" p2) (e :: es) [] pos) X.env = (do
      let ov ← eval (.Name x p1) X.env
      standAt p2.atName
      let (f, first) ← holding [ov] (getMethod ov "__init__" pl)
      callWith pos f first (backTo pos (starEach (e :: es) X.env)) (backToKw pos (keywordEach [] X.env))) := by rfl)
    (he : starEach (e :: es) X.env = (false, eval e X.env) :: starEach es X.env := by rfl) (hpl : (backTo pos (starEach es X.env)).any (·.1) = false := by rfl) :
    PE X (.Call (.Attribute (.Name x p1) "__init__" p2) (e :: es) [] pos) (tVeI X.K ta) := by
  refine ⟨fun pins s σ H Q I h => ?_⟩
  refine PySem.W.methodCall_KW (ld_glob I hg hm ?_ hdb) hc
  refine PySem.W.method_cls I.kIn ga (PySem.W.cls_value I.kIn rd ci (by decide +kernel) ?_)
  change wpAny _ _ (callWith pos (Value.builtin "ValueError.__init__") [] (backTo pos (starEach (e :: es) X.env)) []) _ _ _
  refine PyProof.Rows.callWith_method1 (thn (ha.run pos pins _ σ H _ (I.tok _) h) fun us s1 ⟨vs, H1, I1, r1, a, C, ws, ev, hl, O, ea, q⟩ => ?_) he hpl
  subst ev
  cases r1 with
  | @cons _ u0 _ ur ra rw' =>
    obtain rfl : u0 = Value.ref a := ra
    exact oinit_ok O I1 ea (by rw [← Paired.length rw', sizeLine_eq]; omega) fun s' J => ⟨.non, H1, J, rfl, q⟩
end
/-- its one argument is the error that is handled, of the class D, its dict at dd -/
structure FnE (P : Program) (w : World) (K : PySem.W.Frag) (mg : Str → Option Value) (base : Heap) (k : Nat) (f : Addr) (fd : FuncData) (ps : List Str) (D : Addr) (sp : Hp → VK → Prop) : Prop where
  len : ps.length = 1
  run : ∀ (A : Around) (outer : List Env) (s : Shared) (H : Hp) (args : Args) (a dd : Addr) (fs : List (Str × V)) (oe : Obj) (Q : VK), L2H.RoomH k A → L2H.PinOk outer H s (a, oe) → Zc (.ref D) (some dd) oe → (∃ vs, oe.data = .fields vs) → H dd = some (.xd fs) → Env0 P w K mg base A outer s H →
    BindsTo s fd args (ps.zip [.ref a]) → sp H Q → codeAny (model P w) A (.call (.ref f) args) (CR CX0 outer P w H s Q E0) s
structure CalE (P : Program) (w : World) (K : PySem.W.Frag) (mg : Str → Option Value) (base : Heap) (k : Nat) (x : Str) (ps : List Str) (D : Addr) (sp : Hp → VK → Prop) where
  f : Addr
  fd : FuncData
  G : FnE P w K mg base k f fd ps D sp
  g : mg x = some (.ref f)
  kp : PySem.W.keepIn K (.ref f) = true
  b : Binds K fd ps []
section
variable {P : Program} {w : World} {K : PySem.W.Frag} {mg : Str → Option Value} {base : Heap}
theorem okE {x qual : Str} {st : Stmt} {f : Addr} {fd : FuncData} {N ps : List Str} {k : Nat} {D : Addr} {sp : Hp → VK → Prop} (F : Fun K x qual st f fd) (S : FnScope N ps (defScope st)) (len : ps.length = 1)
    (hbody : ∀ (cdv : Value) (A : Around) (outer : List Env) (s : Shared) (H : Hp) (a dd : Addr) (fs : List (Str × V)) (oe : Obj) (Q : VK), Zc (.ref D) (some dd) oe → (∃ vs, oe.data = .fields vs) → H dd = some (.xd fs) → sp H Q →
      ∃ t, PSs (L2H.cxH CX0 P w K mg base N qual (defScope st) f cdv A outer s H E0 (a, oe)) (defBody st) t ∧ t { nx := fun _ H' => Q .non H', rt := Q } (start N [.ref a]) H) : FnE P w K mg base (k + 1) f fd ps D sp := by
  obtain ⟨oc, od, kV, doc, pm, an, cdv, ct, osl, rfl, lk, hcd⟩ := F.ex
  refine ⟨len, fun A outer s H args a dd fs oe Q hr hpin hz hf hd e0 hb hsp => ?_⟩
  have KX : K.In s.heap := e0.mod.kin.keeps fun b o e => (e0.bs b o e).1
  have r1 : Vals [V.ref a] [Value.ref a] := .cons rfl .nil
  have hkind : ∀ y ∈ ps.zip [Value.ref a], (defScope st).names.lookup y.1 = some .local ∨ ((defScope st).names.lookup y.1 = some .cell ∧ ((cellsFrom (s.heap.objs.size + 1) (defScope st).names []).lookup y.1).isSome = true) := fun ⟨n, v⟩ hy =>
    (S.par n (List.of_mem_zip hy).1).elim .inl fun q => .inr ⟨q, PySem.W.cellsFrom_some _ _ _ (.inl q)⟩
  refine codeAny_call_function hr.depth (KX _ _ lk) rfl S.co S.gen rfl (PySem.W.codeRec_of KX hcd) (hb _ _ _ _ ?_)
  refine wpAny_newFunctionEnv_cells S.kind hkind fun env he s1 x => ?_
  subst he
  refine ⟨(e0.mod.nolimit.keeps fun b o e => (e0.bs b o e).1).keeps x.toInCall.keep, codeAny_func ?_⟩
  obtain ⟨t, ht, hq⟩ := hbody cdv A outer s H a dd fs oe Q hz hf hd hsp
  refine wpAny_mono (ht.run [] s1 (start N [V.ref a]) H _ (L2H.inv_startH S hpin e0 (by rw [len]; rfl) r1 x) hq) (fun fl s' hs => ?_) fun _ _ hs => hs
  cases fl with
  | ret u =>
    obtain ⟨v, σ', H', J, rv, q⟩ := hs
    exact ⟨v, H', J.os, J.bare, J.base, J.hok, rv, q⟩
  | next =>
    obtain ⟨σ', H', J, q⟩ := hs
    exact ⟨V.non, H', J.os, J.bare, J.base, J.hok, rfl, q⟩
  | brk => exact hs.elim fun _ h => h.elim fun _ h => False.elim h.2
  | cont => exact hs.elim fun _ h => h.elim fun _ h => False.elim h.2
end
section
variable {X : Cx} {a D dd : Addr} {oe : Obj}
def rIsP (K : PySem.W.Frag) (D a dd : Addr) : List V → Hp → VK → Prop := fun xs H Q => ∃ (c : V) (cv : Value) (b : Bool) (fs : List (Str × V)), xs = [.ref a, c] ∧ (∀ u, RelV c u → u = cv) ∧ PySem.W.kitOne K (.ref D) cv = some b ∧ H dd = some (.xd fs) ∧ Q (.bl b) H
theorem call_isP (C : ExcC X.K D) (hm : (a, oe) ∈ X.pn) (hz : Zc (.ref D) (some dd) oe) (hf : ∃ vs, oe.data = .fields vs) : CallR X (.builtin "isinstance") (rIsP X.K D a dd) := by
  intro pins s σ H xs us Q I r h
  obtain ⟨c, cv, b, fs, rfl, hcv, e, hd, q⟩ := h
  cases r with
  | cons rx rr => cases rr with
    | cons rt rr =>
      cases rr
      cases rx
      obtain rfl := hcv _ rt
      obtain ⟨vs, hv⟩ := hf
      obtain ⟨od, hod⟩ : ∃ od, s.heap.get? dd = some od := objOk_get (I.hok dd _ hd)
      have J : PySem.W.InstAt s.heap a oe D (some od) := by
        have hget := (I.pin (a, oe) (List.mem_append_left _ hm)).1
        obtain ⟨oc, od', oda, osl⟩ := oe
        obtain ⟨h1, h2⟩ := hz
        dsimp only at h1 h2 hv
        subst h1 h2 hv
        exact ⟨hget, rfl, rfl, hod⟩
      have hcl : (PySem.W.clsIn X.K D).isSome = true := by
        have := C.hd
        unfold PySem.W.hasDictIn at this
        cases hc : PySem.W.clsIn X.K D with
        | none => rw [hc] at this; cases this
        | some _ => rfl
      exact PySem.W.kia_one (PySem.W.kitx_exc hcl C.hg C.hk C.hs C.ha C.hn C.ht C.hm) I.kIn J e (fun z => nomatch z) fun tk => ⟨.bl b, H, I.kept (t' := tk) fun _ _ z => z, rfl, q⟩
variable {k : Nat} {f : Addr} {fd : FuncData} {ps : List Str} {sp : Hp → VK → Prop} {x : Str} {p pos : Pos} {e : Expr} {t : TA}
theorem pe_callE (F : FnE X.prog X.w X.K X.mg X.base k f fd ps D sp) (hr : L2H.RoomH k X.A) (hg : Gl X x) (hm : X.mg x = some (.ref f)) (hk : PySem.W.keepIn X.K (.ref f) = true) (hb : Binds X.K fd ps []) (hp : (a, oe) ∈ X.pn) (hz : Zc (.ref D) (some dd) oe) (hf : ∃ vs, oe.data = .fields vs)
    (ha : L2.PA X [e] t) (hdb : (x == ("__debug__" : Str)) = false := by decide) (he : starEach [e] X.env = [(false, eval e X.env)] := by rfl) :
    PE X (.Call (.Name x p) [e] [] pos) (fun σ H Q => t σ H fun vs H1 => vs = [.ref a] ∧ (∃ fs, H1 dd = some (.xd fs)) ∧ sp H1 Q) := by
  refine ⟨fun pins s σ H Q I h => ?_⟩
  refine wpAny_Call_Name_kw (ld_glob I hg hm ?_ hdb)
  refine PySem.W.callWith_K (h₀ := X.base) I.ok.mod.kin hk (thn (ha.run pos pins s σ H _ I h) fun us s1 ⟨vs, H1, I1, r, ev, ⟨fs, hd⟩, q⟩ => ⟨I1.kIn, ?_⟩) he rfl
  subst ev
  cases r with
  | cons rx rr =>
    cases rr
    cases rx
    have b := hb s1 [Value.ref a] I1.kIn (by rw [List.append_nil, F.len]; rfl)
    rw [List.append_nil] at b
    have P1 := I1.pin (a, oe) (List.mem_append_left _ hp)
    have hpin : L2H.PinOk X.stack H1 s1 (a, oe) := ⟨P1.1, P1.2.1, fun hm => (List.mem_cons.mp (I1.stkSub a hm)).elim P1.2.2.1 P1.2.2.2.1, P1.2.2.2.2⟩
    refine wpAny_call (codeAny_mono (F.run X.A X.stack s1 H1 ⟨[.ref a], []⟩ a dd fs oe Q hr hpin hz hf hd I1.env0 b q) fun r s' hq => ?_)
    cases r with
    | error e => exact False.elim hq
    | ok fl => cases fl with
      | ret u => exact I1.after hq
      | next => exact False.elim hq
      | brk => exact False.elim hq
      | cont => exact False.elim hq
end
theorem zc_of {cls : Value} {d : Option Addr} {D : Addr} {oe : Obj} (hz : Zc cls d oe) (hp : cls = .ref D ∧ d = some (d.getD 0)) : Zc (.ref D) (some (d.getD 0)) oe := by
  obtain ⟨rfl, h⟩ := hp
  rw [← h]
  exact hz
end XI
structure CalI (P : Program) (w : World) (K : PySem.W.Frag) (mg : Str → Option Value) (base : Heap) (f : Addr) (ps : List Str) (sp : Sp) where
  fd : FuncData
  G : FnOk P w K mg base CX0 1 f fd ps sp
  b : Binds K fd ps []
/-! NoSaying(row) -/
abbrev sNoSaying___init__ : Stmt := inClass (topS 5) 0
theorem scNoSaying___init__ : FnScope ["self", "row"] ["self", "row"] (defScope sNoSaying___init__) := ⟨rfl, rfl, rfl, by decide +kernel, rfl, by decide +kernel, by decide +kernel⟩
section
variable {P : Program} {w : World} {K : PySem.W.Frag} {mg : Str → Option Value} {base : Heap}
def spIni (C : Addr) : Sp := fun vs H Q _ => ∃ (a : Addr) (n : Int), vs = [.ref a, .int n] ∧ H a = some (exo a C none) ∧ -1 ≤ n ∧ n ≤ 160 ∧ ∀ dx, H dx = none → dx ≠ a → Q .non (L2.upd (L2.upd H dx (exd dx [(Str.ofString "row", .int n)])) a (exo a C (some dx)))
theorem ok_ini {f : Addr} {fd : FuncData} (F : Fun K "__init__" "NoSaying.__init__" sNoSaying___init__ f fd) (T : Bi mg) (S : XIni K mg "NoSaying") : FnOk P w K mg base CX0 1 f fd ["self", "row"] (spIni S.R) := by
  have xTreeError := S.xT
  refine F.ok scNoSaying___init__ (fun vs H Q E h => ?_) (fun cdv A outer s H vs Q E hr h => ?_)
  · obtain ⟨a, n, rfl, _⟩ := h
    rfl
  · obtain ⟨a, n, rfl, ha, hn0, hn1, q⟩ := h
    have hn : n.natAbs ≤ 1000 := by omega
    refine ⟨_, (pss_cons (ps_expr (XI.pe_xinit rfl xTreeError.g S.rd S.ga S.ci (pa_cons (pv 0) (pa_cons (pe_op op_add_str pe_str (pe_callTy call_str_int (by rfl) T.str (by decide +kernel) (pa_cons (pv 1) pa_nil))) pa_nil)))) (pss_one (ps_ost (pv 0) (pv 1)))), ?_⟩
    have hlog : n.natAbs.log2 < 1920 := by
      rcases Nat.eq_zero_or_pos n.natAbs with h | h
      · rw [h]
        decide
      · exact (Nat.log2_lt (by omega)).mpr (Nat.lt_of_le_of_lt hn (by
          calc 1000 < 2 ^ 10 := by decide
            _ ≤ 2 ^ 1920 := Nat.pow_le_pow_right (by decide) (by decide)))
    have hlen : (Str.ofString (toString n)).length ≤ 10 := by
      have : ∀ k : Nat, k < 162 → (Str.ofString (toString ((k : Int) - 1))).length ≤ 10 := by decide +kernel
      have h := this (n + 1).toNat (by omega)
      rwa [show (((n + 1).toNat : Int) - 1) = n by omega] at h
    refine ⟨_, rfl, _, rfl, n, rfl, hlog, _, _, rfl, rfl, Nat.le_trans (Nat.add_le_add_left hlen _) (by decide +kernel), ?_⟩
    refine ⟨a, S.R, _, rfl, by show 1 ≤ 1000; decide, S.O, ha, ?_⟩
    exact ⟨_, rfl, _, rfl, a, S.R, rfl, S.O, S.no, .inl ⟨ha, fun dx h1 h2 => q dx h1 h2⟩⟩
end

/-! ### sayings as data -/
inductive Row where
  | mark (z : Str)
  | word (x : Str) (ns : List Int)
  | run (x f : Str) (ns : List Int)
def Row.enc : Row → List V
  | .mark z => [.str "mark", .str z]
  | .word x ns => .str x :: ns.map V.int
  | .run x f ns => .str x :: .str f :: ns.map V.int
def partsL : List (Str × Nat) := [("yes", 0), ("no", 0), ("not", 1), ("and", 2), ("or", 2), ("step", 1)]
def formsL : List (Str × Nat) := [("next", 1), ("once", 1), ("ever", 1), ("until", 2), ("unless", 2)]
def whoseL : List Str := ["some", "all"]
def GoodRow (k : Nat) : Row → Prop
  | .mark z => GoodName z
  | .word x ns => (x, ns.length) ∈ partsL ∧ ∀ n ∈ ns, 0 ≤ n ∧ n < k
  | .run x f ns => x ∈ whoseL ∧ (f, ns.length) ∈ formsL ∧ ∀ n ∈ ns, 0 ≤ n ∧ n < k
def Row.nums : Row → List Int
  | .mark _ => []
  | .word _ ns => ns
  | .run _ _ ns => ns
structure SayAt (K : PySem.W.Frag) (H : Hp) (t : Addr) (rows : List Row) : Prop where
  ex : ∃ ra : List Addr, SqT K H t (ra.map V.ref) ∧ Each (fun a r => SqT K H a r.enc) ra rows
theorem SayAt.imm {K : PySem.W.Frag} {H H' : Hp} {t : Addr} {rows : List Row} (S : SayAt K H t rows) (e : Imm H H') : SayAt K H' t rows := by
  obtain ⟨ra, h1, h2⟩ := S.ex
  exact ⟨ra, e.sq h1, h2.imp fun _ _ h => e.sq h⟩
structure GoodSay (rows : List Row) : Prop where
  lo : 1 ≤ rows.length
  hi : rows.length ≤ 160
  gr : ∀ i r, rows[i]? = some r → GoodRow i r
theorem cut_from {xs : List V} {k : Nat} (h : k ≤ xs.length) : cutV xs (some (k : Int)) none = xs.drop k := by
  unfold cutV
  rw [show HT.sIx xs.length 0 (some (k : Int)) = min k xs.length from HT.sIx_nat xs.length 0 k, HT.sIx_none, Nat.min_eq_left h]
  rw [← List.length_drop, List.take_length]
theorem not_whole {n k : Nat} (h : k ≤ n) (h0 : 0 < k) : ¬ (HT.sIx n 0 (some (k : Int)) = 0 ∧ HT.sIx n n none = n) := fun e => by
  have e1 := e.1
  rw [show HT.sIx n 0 (some (k : Int)) = min k n from HT.sIx_nat n 0 k, Nat.min_eq_left h] at e1
  omega
structure Wf (K : PySem.W.Frag) (w : World) (mg : Str → Option Value) where
  aH : Addr
  aP : Addr
  aF : Addr
  eP : Array DictEntry
  nP : Nat
  eF : Array DictEntry
  nF : Nat
  uL : Value
  gWHOSE : mg "WHOSE" = some (.ref aH)
  rWHOSE : RelV (.ref aH) (.ref aH)
  sH : ∀ H, SqT K H aH (whoseL.map V.str)
  gPARTS : mg "PARTS" = some (.ref aP)
  rPARTS : RelV (.ref aP) (.ref aP)
  dPARTS : KDict K w aP eP nP
  gFORMS : mg "FORMS" = some (.ref aF)
  rFORMS : RelV (.ref aF) (.ref aF)
  dFORMS : KDict K w aF eF nF
  gLONGEST : mg "LONGEST" = some uL
  rLONGEST : RelV (.int 160) uL
  kP : ∀ p ∈ partsL, ∃ u, PySem.W.nsIn K aP p.1 = some (some u) ∧ RelV (.int p.2) u
  kF : ∀ p ∈ formsL, ∃ u, PySem.W.nsIn K aF p.1 = some (some u) ∧ RelV (.int p.2) u

/-! ### sayings among things of any kind -/
abbrev snumbers_of : Stmt := topS 32
theorem scnumbers_of : FnScope ["row"] ["row"] (defScope snumbers_of) := ⟨rfl, rfl, rfl, by decide +kernel, rfl, by decide +kernel, by decide +kernel⟩
abbrev scan_stand : Stmt := topS 33
theorem sccan_stand : FnScope ["thing", "at", "many", "numbers", "one"] ["thing", "at"] (defScope scan_stand) := ⟨rfl, rfl, rfl, by decide +kernel, rfl, by decide +kernel, by decide +kernel⟩
abbrev scheck : Stmt := topS 34
theorem sccheck : FnScope ["thing", "at", "row"] ["thing"] (defScope scheck) := ⟨rfl, rfl, rfl, by decide +kernel, rfl, by decide +kernel, by decide +kernel⟩
namespace SAY
open PySem PySem.Spec PyProof.Rows L2
/-- a list compared with one of another length, or an empty one -/
theorem op_eqNil {X : Cx} (hu : X.A.units + 64 < cLine) : OpR X (compareOp .Eq) (fun x y H Q => ∃ a b xs, x = .ref a ∧ y = .ref b ∧ SqL X.K H a xs ∧ SqL X.K H b [] ∧ Q (.bl xs.isEmpty) H) := by
  intro pins s σ H x y v u Q I rx ry h
  obtain ⟨a, b, xs, rfl, rfl, ha, hb, q⟩ := h
  cases rx
  cases ry
  obtain ⟨its, r1, p1, _⟩ := I.list ha
  obtain ⟨jts, r2, p2, _⟩ := I.list hb
  cases r2
  have hA : X.A.units < cLine := by omega
  cases r1 with
  | nil => exact SeqAt.eq_listAt (e := fun _ => true) p1.isList p2.isList rfl hA (fun j h1 _ => absurd h1 (by simp)) ⟨.bl true, H, I, rfl, q⟩
  | cons _ _ => exact SeqAt.eq_list_lengthsAt p1.isList p2.isList (by simp) hA ⟨.bl false, H, I, rfl, q⟩
end SAY
structure Wg (K : PySem.W.Frag) (w : World) (mg : Str → Option Value) extends Wf K w mg where
  oP : ∀ x, partsL.lookup x = none → PySem.W.nsIn K aP x = some none
  oF : ∀ x, formsL.lookup x = none → PySem.W.nsIn K aF x = some none
def rowK (x : Str) (rest : List Th) (k : Int) : Bool :=
  if x = Str.ofString "mark" then (match rest with | [y] => nameB y | _ => false)
  else if x ∈ whoseL then (match rest with | .str f :: ns => (match formsL.lookup f with | some n => decide (ns.length = n) && ns.all (numB · 0 k) | none => false) | _ => false)
  else (match partsL.lookup x with | some n => decide (rest.length = n) && rest.all (numB · 0 k) | none => false)
def standB (t : Th) (k : Int) : Bool := match t with
  | .tup (.str x :: rest) => decide (rest.length ≤ 3) && rowK x rest k
  | _ => false
theorem lookP {x : Str} {n : Nat} (h : partsL.lookup x = some n) : (x, n) ∈ partsL := by
  have : ∀ (l : List (Str × Nat)), l.lookup x = some n → (x, n) ∈ l := by
    intro l
    induction l with
    | nil => intro h; cases h
    | cons p l ih =>
      intro h
      obtain ⟨y, m⟩ := p
      rw [List.lookup_cons] at h
      by_cases e : (x == y) = true
      · rw [e] at h
        cases h
        rw [eq_of_beq e]
        exact List.mem_cons_self
      · rw [Bool.eq_false_iff.mpr e] at h
        exact List.mem_cons_of_mem _ (ih h)
  exact this _ h
theorem lookF {x : Str} {n : Nat} (h : formsL.lookup x = some n) : (x, n) ∈ formsL := by
  have : ∀ (l : List (Str × Nat)), l.lookup x = some n → (x, n) ∈ l := by
    intro l
    induction l with
    | nil => intro h; cases h
    | cons p l ih =>
      intro h
      obtain ⟨y, m⟩ := p
      rw [List.lookup_cons] at h
      by_cases e : (x == y) = true
      · rw [e] at h
        cases h
        rw [eq_of_beq e]
        exact List.mem_cons_self
      · rw [Bool.eq_false_iff.mpr e] at h
        exact List.mem_cons_of_mem _ (ih h)
  exact this _ h
section
variable {P : Program} {w : World} {K : PySem.W.Frag} {mg : Str → Option Value} {base : Heap}
theorem row_tup {N : Nat} {H : Hp} {v : V} {t : Th} {lo hi : Int} (x : TAt N K H v t) (h : rowB t lo hi = true) : ∃ a xs ts, v = .ref a ∧ t = .tup ts ∧ SqT K H a xs ∧ TAll N K H xs ts ∧ lo ≤ xs.length ∧ (xs.length : Int) ≤ hi := by
  rcases tup_or x with ⟨a, xs, ts, rfl, rfl, hx, hl, hall⟩ | ht
  · have h' : (decide (lo ≤ ts.length) && decide ((ts.length : Int) ≤ hi)) = true := h
    rw [Bool.and_eq_true, ← hall.len] at h'
    exact ⟨a, xs, ts, rfl, rfl, hx, hall, of_decide_eq_true h'.1, of_decide_eq_true h'.2⟩
  · rw [row_no ht] at h
    cases h
theorem row_eq {ts : List Th} {lo hi : Int} : rowB (.tup ts) lo hi = (decide (lo ≤ ts.length) && decide ((ts.length : Int) ≤ hi)) := rfl
theorem str_v {N : Nat} {H : Hp} {v : V} {z : Str} (x : TAt N K H v (.str z)) : v = .str z := by
  cases x
  rfl
theorem TAll.drop {N : Nat} {H : Hp} : ∀ (n : Nat) {vs : List V} {ts : List Th}, TAll N K H vs ts → TAll N K H (vs.drop n) (ts.drop n)
  | 0, _, _, h => h
  | _ + 1, _, _, .nil => .nil
  | n + 1, _, _, .cons _ r => TAll.drop n r
theorem TAll.same {N : Nat} {H H' : Hp} {vs : List V} {ts : List Th} (s : Same H H') (x : TAll N K H vs ts) : TAll N K H' vs ts := TAll.keep (Nat.le_refl _) (fun _ _ h => ssqt s h) (fun _ xs h => ⟨xs, s _ _ h⟩) (fun _ _ h => s _ _ h) x
/-- a row that a walk takes in: its first part is a text -/
theorem row_str {N : Nat} {H : Hp} {v : V} {t : Th} (x : TAt N K H v t) (h : rowB t 1 4 = true) : ∃ a x0 xs t0 ts, v = .ref a ∧ t = .tup (t0 :: ts) ∧ SqT K H a (x0 :: xs) ∧ TAt N K H x0 t0 ∧ TAll N K H xs ts ∧ xs.length ≤ 3 := by
  obtain ⟨a, xs, ts, rfl, rfl, hx, hall, l0, l1⟩ := row_tup x h
  cases hall with
  | nil => simp at l0
  | cons y r =>
    rw [List.length_cons] at l1
    exact ⟨a, _, _, _, _, rfl, rfl, hx, y, r, by omega⟩
theorem stand_norow {t : Th} {k : Int} (h : rowB t 1 4 = false) : standB t k = false := by
  unfold standB
  split
  · rename_i x rest
    rw [row_eq, List.length_cons, decide_eq_true (by omega), Bool.true_and] at h
    have h := of_decide_eq_false h
    rw [decide_eq_false (by omega), Bool.false_and]
  · rfl
theorem stand_nostr {t0 : Th} {ts : List Th} {k : Int} (h : isTh "str" t0 = false) : standB (.tup (t0 :: ts)) k = false := by
  cases t0 with
  | str z => simp [isTh, tyn] at h
  | _ => rfl
theorem stand_eq {x : Str} {ts : List Th} {k : Int} (h : ts.length ≤ 3) : standB (.tup (.str x :: ts)) k = rowK x ts k := by
  show (decide (ts.length ≤ 3) && rowK x ts k) = _
  rw [decide_eq_true h, Bool.true_and]
theorem all_bl (p : Th → Bool) (ts : List Th) : ts.map (fun t => V.bl (p t)) = (ts.map p).map V.bl := by
  rw [List.map_map]
  rfl
theorem all_id (p : Th → Bool) (ts : List Th) : (ts.map p).all id = ts.all p := by
  rw [List.all_map]
  rfl
theorem lc_thT {N : Nat} {a : Addr} {xs : List V} {ts : List Th} {j : Nat} {tt : TT} {te : TE} {vs : List Nat} {σ : L2.St} {H1 : Hp} {D : Addr} {Qd : Hp → Prop} (f : Th → V) (hx : SqT K H1 a xs) (hall : TAll N K H1 xs ts) (hD : H1 D = none) (hn : xs.length ≤ 100000)
    (hw : ∀ x, wipe ((wipe σ vs).set j (some x)) vs = wipe σ vs)
    (turn : ∀ (x : V) (t : Th) (H : Hp), t ∈ ts → TAt N K H x t → Same H1 H → ∀ (N1 : V → Hp → Prop) (N2 : Hp → Prop), (∀ H', Same H H' → N1 (f t) H') → tt ((wipe σ vs).set j (some x)) H fun b H3 => if b = true then te ((wipe σ vs).set j (some x)) H3 N1 else N2 H3)
    (done : ∀ H, Same H1 H → H D = some (.lst (ts.map f)) → Qd H) :
    ∃ W : Nat → Nat → Hp → Prop, (∃ m, W 0 m (upd H1 D (.lst []))) ∧ ∀ i m H, W i m H →
      ((Itt K a).stop i H ∧ Qd H) ∨ ((Itt K a).go i H ∧ ∃ Nx : Hp → Prop, (∀ H', Nx H' → ∃ m', m' < m ∧ W (i + 1) m' H') ∧ ∀ x H', (Itt K a).yld i H x H' → (gName j) x (wipe σ vs) H' fun σ2 H2 => wipe σ2 vs = wipe σ vs ∧ tt σ2 H2 fun b H3 =>
        if b = true then te σ2 H3 fun y H4 => ∃ acc, H4 D = some (.lst acc) ∧ acc.length < sizeLine ∧ Nx (upd H4 D (.lst (acc ++ [y]))) else Nx H3) := by
  refine lc_tupS (fun i acc => acc = (ts.take i).map f) hx hD hn rfl hw (fun i x H acc hi s1 e _ N1 N2 k1 _ => ?_) (fun H acc s1 hD2 hl e => ?_)
  · obtain ⟨t, ht, xt⟩ := hall.get hi
    refine turn x t H (List.mem_of_getElem? ht) (xt.same s1) s1 N1 N2 fun H' s2 => k1 (f t) H' s2 ?_
    rw [e, List.take_add_one, ht, List.map_append]
    rfl
  · rw [e, hall.len, List.take_length] at hD2
    exact done H s1 hD2
def spNumsT (K : PySem.W.Frag) : Sp := fun vs H Q _ => ∃ (a : Addr) (x : Str) (xs : List V), vs = [.ref a] ∧ SqT K H a (.str x :: xs) ∧ x ≠ Str.ofString "mark" ∧ (x ∈ whoseL → 1 ≤ xs.length) ∧ ∀ H' p, Same H H' → SqT K H' p (xs.drop (if x ∈ whoseL then 1 else 0)) → Q (.ref p) H'
theorem ok_numsT {f : Addr} {fd : FuncData} (F : Fun K "numbers_of" "numbers_of" snumbers_of f fd) (W : Wg K w mg) : FnOk P w K mg base CX0 1 f fd ["row"] (spNumsT K) := by
  refine F.ok scnumbers_of (fun vs H Q E h => ?_) (fun cdv A outer s H vs Q E hr h => ?_)
  · obtain ⟨a, x, xs, rfl, _⟩ := h
    rfl
  · obtain ⟨a, x, xs, rfl, ha, nm, l, q⟩ := h
    refine ⟨_, (pss_cons (ps_if (pt_cmpR op_eq (pe_ix ix_tup (pv 0) pe_int (fun _ _ => rfl)) pe_str (nomark _))
        (pss_one (ps_ret (pe_tup pa_nil)))
        pss_nil)
      (pss_cons (ps_if (pt_cmpR op_in_seq (pe_ix ix_tup (pv 0) pe_int (fun _ _ => rfl)) (pe_glob rfl W.gWHOSE W.rWHOSE) (by rfl))
        (pss_one (ps_ret (pe_slice sl_tupQ (pv 0) (po_some pe_int) po_none)))
        pss_nil)
      (pss_one (ps_ret (pe_slice sl_tupQ (pv 0) (po_some pe_int) po_none))))), ?_⟩
    refine ⟨_, rfl, a, _, 0, .str x, rfl, rfl, ha, at_of (j := 0) rfl rfl, rfl, _, rfl, ?_⟩
    rw [dec_str, decide_eq_false nm]
    refine iteF ⟨_, rfl, a, _, 0, .str x, rfl, rfl, ha, at_of (j := 0) rfl rfl, _, _, rfl, .inr (W.sH _), rfl, flat_str _, _, rfl, ?_⟩
    rw [inV_str]
    by_cases hx : x ∈ whoseL
    · have l1 := l hx
      rw [if_pos hx] at q
      rw [decide_eq_true hx]
      refine iteT ⟨_, rfl, 2, rfl, a, _, rfl, ha, fun p H' s' hp => q H' p s' ?_⟩
      rw [show cutV (V.str x :: xs) (some 2) none = (V.str x :: xs).drop 2 from cut_from (k := 2) (by rw [List.length_cons]; omega)] at hp
      exact hp
    · rw [if_neg hx] at q
      rw [decide_eq_false hx]
      refine iteF ⟨_, rfl, 1, rfl, a, _, rfl, ha, fun p H' s' hp => q H' p s' ?_⟩
      rw [show cutV (V.str x :: xs) (some 1) none = (V.str x :: xs).drop 1 from cut_from (k := 1) (by rw [List.length_cons]; omega)] at hp
      exact hp
def spStandT (K : PySem.W.Frag) : Sp := fun vs H Q _ => ∃ (v : V) (t : Th) (N : Nat) (k : Int), vs = [v, .int k] ∧ TAt N K H v t ∧ ∀ H', Same H H' → Q (.bl (standB t k)) H'
theorem ok_standT {f : Addr} {fd : FuncData} (F : Fun K "can_stand" "can_stand" scan_stand f fd) (T : Bi mg) (W : Wg K w mg) (cis_row : Cal P w K mg base 1 "is_row" ["thing", "least", "most"] (spRowT K)) (cis_name : Cal P w K mg base 1 "is_name" ["thing"] (spNameT K))
    (cis_number : Cal P w K mg base 2 "is_number" ["thing", "low", "high"] (spNumT K)) (cnumbers_of : Cal P w K mg base 1 "numbers_of" ["row"] (spNumsT K)) : FnOk P w K mg base CX0 3 f fd ["thing", "at"] (spStandT K) := by
  refine F.ok sccan_stand (fun vs H Q E h => ?_) (fun cdv A outer s H vs Q E hr h => ?_)
  · obtain ⟨v, t, N, k, rfl, _⟩ := h
    rfl
  · obtain ⟨v, t, N, k, rfl, x, q⟩ := h
    refine ⟨_, (pss_cons (ps_if (PW.pt (pw_or (pt_not (pt_val (pe_call cis_row.G (hr.mono (by decide)) (by rfl) cis_row.g cis_row.kp cis_row.b .nil pass0 (pa_cons (pv 0) (pa_cons pe_int (pa_cons pe_int pa_nil)))))) (pw_or1 (pt_not (pt_val (pe_callB call_isT (by rfl) T.isinstance (by decide +kernel) (pa_cons (pe_ix ix_tup (pv 0) pe_int (fun _ _ => rfl)) (pa_cons (pe_bltn (v := .ty "str") (u := .type "str") (by rfl) T.str (by decide +kernel) rfl) pa_nil))))))))
        (pss_one (ps_ret pe_bl))
        pss_nil)
      (pss_cons (ps_if (pt_cmpR op_eq (pe_ix ix_tup (pv 0) pe_int (fun _ _ => rfl)) pe_str (nomark _))
        (pss_one (ps_ret (pe_and (pe_cmpR op_eq (pe_callB call_lenX (by rfl) T.len PySem.boot_len (pa_cons (pv 0) pa_nil)) pe_int (nomark _)) (pe_one (pe_call cis_name.G (hr.mono (by decide)) (by rfl) cis_name.g cis_name.kp cis_name.b .nil pass0 (pa_cons (pe_ix ix_tup (pv 0) pe_int (fun _ _ => rfl)) pa_nil))))))
        pss_nil)
      (Evl.pss_cut (ps_if (pt_cmpR op_in_seq (pe_ix ix_tup (pv 0) pe_int (fun _ _ => rfl)) (pe_glob rfl W.gWHOSE W.rWHOSE) (by rfl))
        (pss_cons (ps_if (PW.pt (pw_or (pt_cmpR op_lt (pe_callB call_lenX (by rfl) T.len PySem.boot_len (pa_cons (pv 0) pa_nil)) pe_int (nomark _)) (pw_or (pt_not (pt_val (pe_callB call_isT (by rfl) T.isinstance (by decide +kernel) (pa_cons (pe_ix ix_tup (pv 0) pe_int (fun _ _ => rfl)) (pa_cons (pe_bltn (v := .ty "str") (u := .type "str") (by rfl) T.str (by decide +kernel) rfl) pa_nil))))) (pw_or1 (pt_cmpR (op_notIn_kd W.dFORMS) (pe_ix ix_tup (pv 0) pe_int (fun _ _ => rfl)) (pe_glob rfl W.gFORMS W.rFORMS) (by rfl))))))
          (pss_one (ps_ret pe_bl))
          pss_nil)
        (pss_one (ps_set (i := 2) sccan_stand.nd rfl (.inl rfl) (pe_ix ix_kdict (pe_glob rfl W.gFORMS W.rFORMS) (pe_ix ix_tup (pv 0) pe_int (fun _ _ => rfl)) (fun _ _ => rfl)))))
        (pss_one (ps_if (pt_cmpR (op_in_kd W.dPARTS) (pe_ix ix_tup (pv 0) pe_int (fun _ _ => rfl)) (pe_glob rfl W.gPARTS W.rPARTS) (by rfl))
          (pss_one (ps_set (i := 2) sccan_stand.nd rfl (.inl rfl) (pe_ix ix_kdict (pe_glob rfl W.gPARTS W.rPARTS) (pe_ix ix_tup (pv 0) pe_int (fun _ _ => rfl)) (fun _ _ => rfl))))
          (pss_one (ps_ret pe_bl)))))
      (pss_cons (ps_set (i := 3) sccan_stand.nd rfl (.inl rfl) (pe_call cnumbers_of.G (hr.mono (by decide)) (by rfl) cnumbers_of.g cnumbers_of.kp cnumbers_of.b .nil pass0 (pa_cons (pv 0) pa_nil)))
      (pss_one (ps_ret (pe_and (pe_cmpR op_eq (pe_callB call_lenX (by rfl) T.len PySem.boot_len (pa_cons (pv 3) pa_nil)) (pv 2) (nomark _)) (pe_one (pe_callB (cr_all rfl) (by rfl) T.all (by decide +kernel) (pa_cons (pe_lc (own := [("one", 4)]) (g := gName 4) rfl sccan_stand.nd (pi_tup (pv 3)) (blkOk_by (own := [("one", 4)]) (N := ["thing", "at", "many", "numbers", "one"]) (sc := defScope scan_stand) (by decide +kernel)) (fun _ _ _ _ _ => (pg_name (i := 4) sccan_stand.nd rfl (.inl rfl))) (fun _ _ _ _ _ => pts_nil) (fun _ _ _ _ _ => (pe_call cis_number.G hr (by rfl) cis_number.g cis_number.kp cis_number.b .nil pass0 (pa_cons (pv 4) (pa_cons pe_int (pa_cons (pv 1) pa_nil)))))) pa_nil)))))))))), ?_⟩
    refine ⟨_, rfl, v, t, N, 1, 4, rfl, x, _, rfl, ?_⟩
    cases hrow : rowB t 1 4 with
    | false =>
      have q := q H (Same.refl _)
      rw [stand_norow hrow] at q
      exact iteT q
    | true =>
      obtain ⟨a, x0, xs, t0, ts, rfl, rfl, ha, y0, hall, l3⟩ := row_str x hrow
      refine iteF ⟨_, rfl, a, _, 0, x0, rfl, rfl, ha, at_of (j := 0) rfl rfl, x0, t0, N, "str", rfl, y0, by simp [tyL], _, rfl, ?_⟩
      rcases str_or y0 with ⟨z, rfl, rfl, _, _⟩ | ⟨h1, h2⟩
      · rw [show isTh "str" (.str z) = true by simp [isTh, tyn]]
        have lts : ts.length = xs.length := hall.len.symm
        have e := stand_eq (x := z) (ts := ts) (k := k) (by omega)
        unfold rowK at e
        refine iteF ⟨_, rfl, a, _, 0, .str z, rfl, rfl, ha, at_of (j := 0) rfl rfl, rfl, _, rfl, ?_⟩
        rw [dec_str]
        by_cases hm : z = Str.ofString "mark"
        · rw [decide_eq_true hm]
          rw [if_pos hm] at e
          rw [e] at q
          refine iteT ⟨_, rfl, .inr ⟨a, _, rfl, .inr ha, rfl, _, rfl, ?_⟩⟩
          rw [dec_int]
          cases hall with
          | nil => exact iteF (q H (Same.refl _))
          | cons y1 r => cases r with
            | nil =>
              exact iteT ⟨_, rfl, a, _, 1, _, rfl, rfl, ha, at_of (j := 1) rfl rfl, _, _, N, rfl, y1, q⟩
            | cons y2 r =>
              have q : ∀ H', Same H H' → Q (.bl false) H' := q
              rw [decide_eq_false (by rw [List.length_cons, List.length_cons, List.length_cons]; omega)]
              exact iteF (q H (Same.refl _))
        · rw [decide_eq_false hm]
          rw [if_neg hm] at e
          refine iteF ⟨fun σ H' => ∃ many : Nat, σ = [some (.ref a), some (.int k), some (.int many), none, none] ∧ H' = H ∧ (z ∈ whoseL → 1 ≤ xs.length) ∧ standB (.tup (.str z :: ts)) k = (decide ((ts.drop (if z ∈ whoseL then 1 else 0)).length = many) && (ts.drop (if z ∈ whoseL then 1 else 0)).all (numB · 0 k)), ?_, ?_⟩
          · refine ⟨_, rfl, a, _, 0, .str z, rfl, rfl, ha, at_of (j := 0) rfl rfl, _, _, rfl, .inr (W.sH _), rfl, flat_str _, _, rfl, ?_⟩
            rw [inV_str]
            by_cases hz : z ∈ whoseL
            · rw [decide_eq_true hz]
              rw [if_pos hz] at e
              refine iteT ⟨_, rfl, .inr ⟨a, _, rfl, .inr ha, _, _, rfl, rfl, _, rfl, ?_⟩⟩
              cases hall with
              | nil =>
                rw [e] at q
                exact iteT (q H (Same.refl _))
              | @cons v1 vs1 t1 ts1 y1 r =>
                rw [decide_eq_false (by rw [List.length_cons, List.length_cons]; omega)]
                refine iteF ⟨_, rfl, a, _, 1, v1, rfl, rfl, ha, at_of (j := 1) rfl rfl, v1, t1, N, "str", rfl, y1, by simp [tyL], _, rfl, ?_⟩
                rcases str_or y1 with ⟨fm, rfl, rfl, _, _⟩ | ⟨g1, g2⟩
                · rw [show isTh "str" (.str fm) = true by simp [isTh, tyn]]
                  cases hf : formsL.lookup fm with
                  | none =>
                    have e : standB (.tup (.str z :: .str fm :: ts1)) k = false := by
                      rw [e]
                      show (match formsL.lookup fm with | some n => _ | none => false) = false
                      rw [hf]
                    rw [e] at q
                    exact iteF ⟨_, rfl, a, _, 1, .str fm, rfl, rfl, ha, at_of (j := 1) rfl rfl, _, _, rfl, rfl, W.oF fm hf, true, rfl, iteT (q H (Same.refl _))⟩
                  | some n =>
                    obtain ⟨u, e1, e2⟩ := W.kF _ (lookF hf)
                    refine iteF ⟨_, rfl, a, _, 1, .str fm, rfl, rfl, ha, at_of (j := 1) rfl rfl, _, _, rfl, rfl, e1, false, rfl, iteF ⟨_, rfl, a, _, 1, .str fm, rfl, rfl, ha, at_of (j := 1) rfl rfl, _, _, _, rfl, rfl, ⟨_, _, _, W.dFORMS.at_, W.dFORMS.lit, e1, e2⟩, ?_⟩⟩
                    refine ⟨n, rfl, rfl, fun _ => by rw [List.length_cons]; omega, ?_⟩
                    rw [e, if_pos hz]
                    show (match formsL.lookup fm with | some n => _ | none => false) = _
                    rw [hf]
                    rfl
                · rw [g1]
                  have e : standB (.tup (.str z :: t1 :: ts1)) k = false := by
                    rw [e]
                    cases t1 with
                    | str y => simp [isTh, tyn] at g1
                    | _ => rfl
                  rw [e] at q
                  exact iteT (q H (Same.refl _))
            · rw [decide_eq_false hz]
              rw [if_neg hz] at e
              cases hp : partsL.lookup z with
              | none =>
                rw [hp] at e
                rw [e] at q
                exact iteF ⟨_, rfl, a, _, 0, .str z, rfl, rfl, ha, at_of (j := 0) rfl rfl, _, _, rfl, rfl, W.oP z hp, false, rfl, iteF (q H (Same.refl _))⟩
              | some n =>
                rw [hp] at e
                obtain ⟨u, e1, e2⟩ := W.kP _ (lookP hp)
                refine iteF ⟨_, rfl, a, _, 0, .str z, rfl, rfl, ha, at_of (j := 0) rfl rfl, _, _, rfl, rfl, e1, true, rfl, iteT ⟨_, rfl, a, _, 0, .str z, rfl, rfl, ha, at_of (j := 0) rfl rfl, _, _, _, rfl, rfl, ⟨_, _, _, W.dPARTS.at_, W.dPARTS.lit, e1, e2⟩, ?_⟩⟩
                refine ⟨n, rfl, rfl, fun h => absurd h hz, ?_⟩
                rw [e, if_neg hz]
                rfl
          · rintro σ H1 ⟨many, rfl, rfl, hw, e2⟩
            rw [e2] at q
            refine ⟨_, rfl, a, z, xs, rfl, ha, hm, hw, fun H2 p s2 hp => ⟨_, rfl, .inr ⟨p, _, rfl, .inr hp, _, rfl, rfl, _, rfl, ?_⟩⟩⟩
            have hd := (hall.drop (if z ∈ whoseL then 1 else 0)).same s2
            have ld := hd.len
            have lns : (xs.drop (if z ∈ whoseL then 1 else 0)).length ≤ 3 := by
              rw [List.length_drop]
              omega
            generalize xs.drop (if z ∈ whoseL then 1 else 0) = ns at hp hd ld lns
            generalize ts.drop (if z ∈ whoseL then 1 else 0) = us at q hd ld
            rw [dec_int]
            by_cases hl : us.length = many
            · rw [decide_eq_true hl, Bool.true_and] at q
              rw [decide_eq_true (by rw [ld, hl])]
              refine iteT ⟨_, rfl, p, rfl, ⟨_, hp⟩, fun D hD => lc_thT (fun t => .bl (numB t 0 k)) hp hd hD ?_ (fun _ => rfl) (fun y t H3 _ yt s3 N1 N2 k1 => ⟨_, rfl, _, rfl, y, t, N, 0, k, rfl, yt, k1 _ (Same.refl _)⟩) (fun H3 s3 hD3 => ?_)⟩
              · omega
              · rw [all_bl (numB · 0 k)] at hD3
                refine ⟨D, _, rfl, SqL.of hD3, ?_⟩
                rw [all_id (numB · 0 k)]
                exact q _ (s2.trans s3)
            · rw [decide_eq_false hl, Bool.false_and] at q
              rw [decide_eq_false (by rw [ld]; omega)]
              exact iteF (q _ s2)
      · have q := q H (Same.refl _)
        rw [stand_nostr h1] at q
        rw [h1]
        exact iteT q
end

/-! ### enumerate(t), t a tuple -/
namespace EnT
open PySem PySem.Spec PyProof.Rows L2
abbrev titer (t : Addr) : Obj := { cls := .type "tuple_iterator", data := .fields #[.ref t, .int 0 0] }
abbrev enob (i : Addr) : Obj := { cls := .type "enumerate", data := .fields #[.none, .bool false, .ref i, rawInt 0, .none, .none] }
theorem made (t : Addr) (ys : Array Value) :
    Meets (Builtin.«enumerate.__new__» ⟨[.type "enumerate", .ref t], []⟩) (fun _ R s => s.heap.IsTuple t ys ∧ R (.ok (.ret (.ref (s.heap.push (titer t)).objs.size))) { s with heap := (s.heap.push (titer t)).push (enob s.heap.objs.size) }) :=
  .of_wp fun prog w A R s hyp => by
    obtain ⟨hp, gg, dd, tt, oo⟩ := s
    obtain ⟨isT, hyp⟩ := hyp
    have sub1 := sub_enumerate
    have it1 : ∀ {A' : Around} {E : Value → Shared → Prop} {Q : Value → Shared → Prop}, Q (.ref hp.objs.size) ⟨hp.push (titer t), gg, dd, tt, oo⟩ → wpAny (model prog w) A' (pyIter (.ref t)) Q E ⟨hp, gg, dd, tt, oo⟩ := fun q => wpAny_pyIter_tuple isT q
    wp_walk using it1
    refine wpAny_stack_any fun _ => wpAny_pure ?_
    split
    · rename_i cc _ _ _ _ _
      cases (cc == Value.type "enumerate") <;> (wp_walk using it1; exact ⟨_, rfl, hyp⟩)
    · wp_walk using it1
      exact ⟨_, rfl, hyp⟩
theorem called {prog : Program} {w : World} {A : Around} {E : Value → Shared → Prop} {s : Shared} {t : Addr} {ys : Array Value} {Q : Value → Shared → Prop} (isT : s.heap.IsTuple t ys)
    (k : ∀ g, IsEnum g (s.heap.objs.size + 1) s.heap.objs.size 0 .none → g.IsTupleIter s.heap.objs.size t 0 → (∀ b o, s.heap.get? b = some o → g.get? b = some o) → Q (.ref (s.heap.objs.size + 1)) { s with heap := g }) :
    wpAny (model prog w) A (call (.type "enumerate") [.ref t]) Q E s := by
  refine callType_new F.called_enumerate (by decide) (F.typeCall_enumerate_1 _) (F.newCall_enumerate_1 _) (fun ob => F.args_object_init_2 ob _) F.entry_enumerate_new (made t ys) ⟨isT, ?_⟩
  have sz : (s.heap.push (titer t)).objs.size = s.heap.objs.size + 1 := Heap.size_push ..
  have en : IsEnum ((s.heap.push (titer t)).push (enob s.heap.objs.size)) (s.heap.objs.size + 1) s.heap.objs.size 0 .none := by
    have z := Heap.get?_push_size (s.heap.push (titer t)) (o := enob s.heap.objs.size) rfl
    rw [sz] at z
    exact z
  show _ ∧ _
  rw [sz]
  exact ⟨⟨_, en, rfl⟩, k _ en ⟨_, Heap.get?_push_of_some _ (Heap.get?_push_size _ rfl), rfl, rfl⟩ fun b o x => Heap.get?_push_of_some _ (Heap.get?_push_of_some _ x)⟩
theorem ends {prog : Program} {w : World} {A : Around} {E : Value → Shared → Prop} {s : Shared} {e ti a : Addr} {i : Nat} {ys : Array Value} {old : Value} {Q : Option Value → Shared → Prop} (hh : A.handled = none) (e1 : IsEnum s.heap e ti i old) (e2 : s.heap.IsTupleIter ti a i)
    (isT : s.heap.IsTuple a ys) (no : ys[i]? = none) (k : ∀ g, Heap.ExtBut ti s.heap g → Q none { s with heap := g }) : wpAny (model prog w) A (pyNext (.ref e)) Q E s := by
  have ty : s.TypeIs (.ref e) "enumerate" := ⟨_, e1, rfl⟩
  unfold pyNext
  refine wpAny_bind (wpAny_attempt (wpAny_callSpecial?_slot (name := Str.ofString "__next__") ty F.slot_enumerate_next (wpAny_call_entry F.slot_enumerate_next ty F.entry_enumerate_next ?_ (F.args_enumerate_next_1 _))))
  show wpAny _ _ (field (.ref e) 2 >>= _) _ _ s
  refine wpAny_bind (wpAny_field e1 rfl (x := .ref ti) rfl (wpAny_bind (wpAny_nextOf_tuple_end hh e2 isT no fun g x eg ex => ?_)))
  obtain ⟨o, q1, q2⟩ := ex
  exact wpAny_bind (wpAny_isInstance (T := "StopIteration") (b := true) ⟨o, q1, q2⟩ isSubtype_stop (wpAny_pure (k _ eg)))
/-- the tuple at a, each item in a new pair with its place -/
def Ien (K : PySem.W.Frag) (a : Addr) : It where
  go := fun i H => ∃ (xs : List V) (x : V), SqT K H a xs ∧ xs[i]? = some x
  yld := fun i H v H' => ∃ p x, v = .ref p ∧ H p = none ∧ H' = L2.upd H p (.tup [.int (i : Nat), x]) ∧ ∀ xs, SqT K H a xs → xs[i]? = some x
  stop := fun i H => ∃ xs : List V, SqT K H a xs ∧ xs.length ≤ i
theorem turn {P : Program} {w : World} {K : PySem.W.Frag} {elts : List Expr} {kk : Nat} {tpos : Pos} (a en ti : Addr) :
    Turn P w K (.Tuple elts kk tpos) (Ien K a) [en, ti] en (fun i h => (∃ old, IsEnum h en ti ((i : Nat) : Int) old) ∧ h.IsTupleIter ti a i ∧ en ≠ ti) where
  mem := List.mem_cons_self
  obj := fun i h st b hb => by
    obtain ⟨⟨old, e1⟩, ⟨o, e2, _, e3⟩, _⟩ := st
    rcases (by simpa using hb : b = en ∨ b = ti) with rfl | rfl
    · exact ⟨_, e1, fun v q => nomatch q⟩
    · exact ⟨o, e2, fun v q => by rw [e3] at q; cases q⟩
  keep := fun i h h' st k => by
    obtain ⟨⟨old, e1⟩, e2, e3⟩ := st
    exact ⟨⟨old, k en List.mem_cons_self _ e1⟩, e2.at fun o q => k ti (List.mem_cons_of_mem _ List.mem_cons_self) o q, e3⟩
  item := by
    intro X hP hw hK hc i pins s σ H E I hf st hg
    subst hP hw hK
    obtain ⟨⟨old, e1⟩, e2, ne⟩ := st
    obtain ⟨xs, x, hq, hx⟩ := hg
    obtain ⟨its, rv, p, hz⟩ := I.tuple hq
    obtain ⟨u, hu, ru⟩ := rv.get hx
    have isT : s.heap.IsTuple a its.toArray := p
    have l1 : en < s.heap.objs.size := Heap.lt_size e1
    have l2 : ti < s.heap.objs.size := by
      obtain ⟨_, q, _⟩ := e2
      exact Heap.lt_size q
    have n1 : a ≠ ti := fun z => by
      obtain ⟨o, q1, q2, _⟩ := e2
      obtain ⟨o2, r1, r2, _⟩ := isT
      rw [z, q1] at r1
      cases r1
      rw [q2] at r2
      exact absurd r2 (by decide)
    have n2 : a ≠ en := fun z => by
      obtain ⟨o2, r1, r2, _⟩ := isT
      rw [z, e1] at r1
      cases r1
      exact absurd (show Value.type "enumerate" = Value.type "tuple" from r2) (by decide)
    have iu : i < its.toArray.size := by
      have := (List.getElem?_eq_some_iff.mp hu).1
      simpa using this
    refine wpAny_pyNext_enum_itemD (Draws.tuple (prog := X.prog) (w := X.w) (A := X.A.in1) (show X.A.in1.handled = none from I.ok.hd hc) ti a n1 its.toArray) e1 ⟨e2, isT⟩ iu ne (by simp [ne, n2.symm]) fun y g tk hy ho sti hT hsz hk => ?_
    have ey : y = u := by
      have : its[i]? = some y := by simpa using hy
      rw [hu] at this
      exact (Option.some.inj this).symm
    subst ey
    refine ⟨_, rfl, wpAny_letOwnedTupleGo_enum (s := { s with heap := g, toks := tk + 1 }) ho fun g2 e4 sb => ?_⟩
    have hT2 : g2.get? s.heap.objs.size = some { cls := .type "tuple", data := .seq #[.int i tk, y] } := (sb.2 _ (Nat.ne_of_gt l1)).trans hT
    have nw : ObjOk X.prog X.w (L2.upd H s.heap.objs.size (.tup [.int (i : Nat), x])) g2 s.heap.objs.size (.tup [.int (i : Nat), x]) :=
      ⟨by show 2 ≤ sizeLine; decide, [.int i tk, y], .cons ⟨_, rfl⟩ (.cons ru .nil), ⟨_, hT2, rfl, _, rfl⟩⟩
    have I1 : Inv X pins σ (L2.upd H s.heap.objs.size (.tup [.int (i : Nat), x])) { s with heap := g2, toks := tk + 1 } :=
      I.turnedNew (ch := [en, ti]) (fun b o hb q => (sb.2 b fun z => hb (by simp [z])).trans (hk b o (fun z => hb (by simp [z])) (fun z => hb (by simp [z])) q)) hf (Nat.le_refl _) nw
    refine ⟨.ref s.heap.objs.size, _, I1, rfl, ⟨_, x, rfl, I.hok.fresh (Nat.le_refl _), rfl, fun ys hy => by rw [I.tuple_inj hy hq]; exact hx⟩, ⟨⟨y, ?_⟩, sti.1.at fun o q => (sb.2 ti ne.symm).trans q, ne⟩, fun b hb => ?_⟩
    · rw [show ((i + 1 : Nat) : Int) = (i : Int) + 1 by omega]
      exact e4
    · have lb : b < s.heap.objs.size := by
        rcases (by simpa using hb : b = en ∨ b = ti) with rfl | rfl
        · exact l1
        · exact l2
      rw [upd_ne (Nat.ne_of_lt lb)]
      exact (hf b hb).1
  done := by
    intro X hP hw hK hc i pins s σ H E I hf st hg
    subst hP hw hK
    obtain ⟨⟨old, e1⟩, e2, ne⟩ := st
    obtain ⟨xs, hq, hx⟩ := hg
    obtain ⟨its, rv, p, hz⟩ := I.tuple hq
    obtain ⟨f0, f1, f2, f3, f4, f5⟩ := hf ti (by simp)
    have hl := rv.length
    have isT : s.heap.IsTuple a its.toArray := p
    exact ends (I.ok.hd hc) e1 e2 isT (by simp; omega) fun g eb => ⟨rfl, I.turned (t' := s.toks) (fun b o hb q => eb b o hb q) f0 f1 f3 f4 f5⟩
  self := fun A i s Q E st k => by
    obtain ⟨⟨_, e1⟩, _⟩ := st
    exact wpAny_pyIter_enum e1 k
def iEn (K : PySem.W.Frag) (ta : TA) : TI := fun σ H R => ta σ H fun vs H1 => ∃ a xs, vs = [.ref a] ∧ SqT K H1 a xs ∧ R (Ien K a) H1
theorem walk {K : PySem.W.Frag} {a : Addr} {xs : List V} : Walk (Ien K a) xs.length (fun H => SqT K H a xs) (YPair (fun i => some (.int (i : Nat))) (fun i => xs[i]?)) := by
  refine ⟨fun i _ hi q => ⟨xs, xs[i], q, List.getElem?_eq_getElem hi⟩, fun _ q => ⟨xs, q, Nat.le_refl _⟩, fun i H v H' _ q y => ?_⟩
  obtain ⟨p, x, h1, h2, h3, h4⟩ := y
  exact ⟨p, .int (i : Nat), x, h1, h2, h3, rfl, h4 xs q⟩
end EnT
theorem pi_enumT (K : PySem.W.Frag) {X : Cx} {e : Expr} {ta : TA} {p pos tpos : Pos} {elts : List Expr} {kk : Nat} (hg : Gl X "enumerate") (hm : X.mg "enumerate" = none) (ha : L2.PA X [e] ta) (hK : X.K = K := by rfl) (hs : starEach [e] X.env = [(false, eval e X.env)] := by rfl) :
    PI X (.Tuple elts kk tpos) (.Call (.Name "enumerate" p) [e] [] pos) (EnT.iEn K ta) := by
  subst hK
  refine ⟨fun pins s σ H R I h => ?_⟩
  refine Call_ (ld_blt I hg hm boot_enumerate (PyProof.Rows.callWith_type1 (thn (ha.run pos pins s σ H _ I h) fun us s1 ⟨vs, H1, I1, r1, a, xs, ex, hq, q⟩ => ?_) hs rfl))
  subst ex
  obtain ⟨u, rfl, ru⟩ := r1.one
  cases ru
  obtain ⟨its, rv, p', hz⟩ := I1.tuple hq
  refine EnT.called (show s1.heap.IsTuple a its.toArray from p') fun g e1 e2 hk => wpAny_pyIter_enum e1 ?_
  refine ⟨s1.heap.objs.size + 1, [s1.heap.objs.size + 1, s1.heap.objs.size], _, _, H1, rfl, I1.kept (t' := s1.toks) hk, EnT.turn a (s1.heap.objs.size + 1) s1.heap.objs.size, ⟨⟨.none, e1⟩, e2, Nat.succ_ne_self _⟩, fun b hb => ?_, q⟩
  have lb : s1.heap.objs.size ≤ b := by
    rcases (by simpa using hb : b = s1.heap.objs.size + 1 ∨ b = s1.heap.objs.size) with z | z
    · exact z ▸ Nat.le_add_right _ _
    · exact z ▸ Nat.le_refl _
  exact I1.fpOk lb (I1.hok.fresh lb)

/-! ### check; the law's own walk of sayings -/
abbrev s_law_same : Stmt := topS 47
theorem sc_law_same : FnScope ["_law_found", "_law_due", "_law_k"] ["_law_found", "_law_due"] (defScope s_law_same) := ⟨rfl, rfl, rfl, by decide +kernel, rfl, by decide +kernel, by decide +kernel⟩
abbrev s_law_many_parts : Stmt := topS 48
theorem sc_law_many_parts : FnScope ["_law_word"] ["_law_word"] (defScope s_law_many_parts) := ⟨rfl, rfl, rfl, by decide +kernel, rfl, by decide +kernel, by decide +kernel⟩
abbrev s_law_can_stand : Stmt := topS 49
theorem sc_law_can_stand : FnScope ["_law_thing", "_law_at", "_law_parts", "_law_word", "_law_k"] ["_law_thing", "_law_at"] (defScope s_law_can_stand) := ⟨rfl, rfl, rfl, by decide +kernel, rfl, by decide +kernel, by decide +kernel⟩
abbrev s_law_first_bad : Stmt := topS 50
theorem sc_law_first_bad : FnScope ["_law_thing", "_law_k"] ["_law_thing"] (defScope s_law_first_bad) := ⟨rfl, rfl, rfl, by decide +kernel, rfl, by decide +kernel, by decide +kernel⟩
abbrev s_law_kinds : Stmt := topS 51
theorem sc_law_kinds : FnScope ["_law_e", "_law_found"] ["_law_e"] (defScope s_law_kinds) := ⟨rfl, rfl, rfl, by decide +kernel, rfl, by decide +kernel, by decide +kernel⟩
abbrev s_law_by_base : Stmt := topS 52
theorem sc_law_by_base : FnScope ["_law_thing", "_law_kinds_here", "_law_e", "_law_n"] ["_law_thing"] (defScope s_law_by_base) := ⟨rfl, rfl, rfl, by decide +kernel, rfl, by decide +kernel, by decide +kernel⟩
def items : Th → List Th
  | .tup ts => ts
  | _ => []
def badAt : Int → List Th → Option Int
  | _, [] => none
  | k, t :: r => if standB t k = true then badAt (k + 1) r else some k
def sayBad (t : Th) : Option Int := if rowB t 1 160 = true then badAt 0 (items t) else some (-1)
theorem badAt_cons {k : Int} {t : Th} {r : List Th} : badAt k (t :: r) = if standB t k = true then badAt (k + 1) r else some k := rfl
theorem badAt_bd : ∀ (ts : List Th) (k n : Int), badAt k ts = some n → k ≤ n ∧ n < k + ts.length
  | [], _, _, h => by cases h
  | t :: r, k, n, h => by
    unfold badAt at h
    rw [List.length_cons]
    by_cases e : standB t k = true
    · rw [if_pos e] at h
      have := badAt_bd r (k + 1) n h
      omega
    · rw [if_neg e] at h
      cases h
      omega
theorem sayBad_bd {t : Th} {n : Int} (h : sayBad t = some n) : -1 ≤ n ∧ n ≤ 160 := by
  unfold sayBad at h
  by_cases e : rowB t 1 160 = true
  · rw [if_pos e] at h
    have b := badAt_bd _ _ _ h
    cases t with
    | tup ts =>
      rw [row_eq, Bool.and_eq_true] at e
      have := of_decide_eq_true e.2
      have b : (0 : Int) ≤ n ∧ n < 0 + ts.length := b
      omega
    | _ => cases e
  · rw [if_neg e] at h
    cases h
    omega
def optV : Option Int → V
  | some n => .int n
  | none => .non
theorem drop_at {ts : List Th} {i : Nat} {t : Th} (h : ts[i]? = some t) : ts.drop i = t :: ts.drop (i + 1) := by
  obtain ⟨hi, rfl⟩ := List.getElem?_eq_some_iff.mp h
  rw [List.drop_eq_getElem_cons hi]
section
variable {P : Program} {w : World} {K : PySem.W.Frag} {mg : Str → Option Value} {base : Heap}
theorem raised {H H2 : Hp} {e dx : Addr} {C : Addr} {fs : List (Str × V)} (he : H e = none) (hd : H dx = none) (h2 : H2 = L2.upd (L2.upd (L2.upd H e (exo e C none)) dx (exd dx fs)) e (exo e C (some dx))) : Same H (L2.upd (L2.del H2 e) dx (.xd fs)) := fun b o hb => by
  have b1 : b ≠ e := ne_of_none hb he
  have b2 : b ≠ dx := ne_of_none hb hd
  rw [upd_ne b2, del_ne b1, h2, upd_ne b1, upd_ne b2, upd_ne b1]
  exact hb
def spCkS (K : PySem.W.Frag) (cE : Addr) : Sp := fun vs H Q E => ∃ (v : V) (t : Th) (N : Nat), vs = [v] ∧ TAt N K H v t ∧ (sayBad t = none → ∀ H', Same H H' → Q (.bl true) H') ∧ (∀ n, sayBad t = some n → ∀ H' dd, Same H H' → H' dd = some (.xd [(Str.ofString "row", .int n)]) → E (.ref cE) (some dd) H')
theorem ok_ckS {f : Addr} {fd : FuncData} (F : Fun K "check" "check" scheck f fd) (T : Bi mg) (W : Wg K w mg) (S : XIni K mg "NoSaying") (cini : CalI P w K mg base S.fI ["self", "row"] (spIni S.R)) (cis_row : Cal P w K mg base 1 "is_row" ["thing", "least", "most"] (spRowT K)) (ccan_stand : Cal P w K mg base 3 "can_stand" ["thing", "at"] (spStandT K)) :
    FnOk P w K mg base (L2.CX P w) 4 f fd ["thing"] (spCkS K S.R) := by
  have xNoSaying := S.xR
  refine F.okX sccheck (fun vs H Q E h => ?_) (fun cdv A outer s H vs Q E hr h => ?_)
  · obtain ⟨v, t, N, rfl, _⟩ := h
    rfl
  · obtain ⟨v, t, N, rfl, x, q1, q2⟩ := h
    refine ⟨_, (pss_cons (ps_if (pt_not (pt_val (pe_call cis_row.G (hr.mono (by decide)) (by rfl) cis_row.g cis_row.kp cis_row.b .nil pass0 (pa_cons (pv 0) (pa_cons pe_int (pa_cons (pe_glob rfl W.gLONGEST W.rLONGEST) pa_nil))))))
        (pss_one (ps_raise rfl (takes_of rfl rfl rfl rfl) (pmk_oex S.O S.iC S.tI cini.G (hr.mono (by decide)) cini.b .nil pass0 rfl xNoSaying.g (pa_cons (pe_un un_neg pe_int) pa_nil))))
        pss_nil)
      (pss_cons (ps_for (passes_of rfl) rfl (pi_enumT K (by rfl) T.enumerate (pa_cons (pv 0) pa_nil)) (pg_tup rfl (pgs_cons (pg_name (i := 1) sccheck.nd rfl (.inl rfl)) (pgs_cons (pg_name (i := 2) sccheck.nd rfl (.inl rfl)) pgs_nil)))
        (pss_one (ps_if (pt_not (pt_val (pe_call ccan_stand.G hr (by rfl) ccan_stand.g ccan_stand.kp ccan_stand.b .nil pass0 (pa_cons (pv 2) (pa_cons (pv 1) pa_nil)))))
          (pss_one (ps_raise rfl (takes_of rfl rfl rfl rfl) (pmk_oex S.O S.iC S.tI cini.G (hr.mono (by decide)) cini.b .nil pass0 rfl xNoSaying.g (pa_cons (pv 1) pa_nil))))
          pss_nil)))
      (pss_one (ps_ret pe_bl)))), ?_⟩
    refine ⟨_, rfl, v, t, N, 1, 160, rfl, x, _, rfl, ?_⟩
    cases hrow : rowB t 1 160 with
    | false =>
      have e : sayBad t = some (-1) := by
        unfold sayBad
        rw [hrow]
        rfl
      refine iteT ⟨_, rfl, by show 1 ≤ 1000; decide, fun e1 he1 => ⟨e1, -1, rfl, upd_same, by decide, by decide, fun dx h1 h2 => ⟨rfl, dx, [(Str.ofString "row", .int (-1))], upd_same, by rw [upd_ne h2, upd_same], by rw [upd_ne h2] at h1; exact h1, ?_⟩⟩⟩
      exact q2 _ e _ dx (raised he1 (by rw [upd_ne h2] at h1; exact h1) rfl) upd_same
    | true =>
      obtain ⟨a, xs, ts, rfl, rfl, hx, hall, l0, l1⟩ := row_tup x hrow
      have e0 : sayBad (.tup ts) = badAt 0 ts := by
        unfold sayBad
        rw [hrow]
        rfl
      rw [e0] at q1 q2
      refine iteF ⟨_, rfl, a, _, rfl, hx, for_it (EnT.walk (K := K) (a := a) (xs := xs)) (fun i σ H' => ∃ y1 y2, σ = [some (.ref a), y1, y2] ∧ Same H H' ∧ badAt 0 ts = badAt i (ts.drop i)) ⟨_, _, rfl, Same.refl _, rfl⟩ (fun i σ H' _ ⟨_, _, _, e, _⟩ => ssqt e hx) ?_ ?_⟩
      · rintro i x1 σ H1 H2 hi ⟨y1, y2, rfl, s1, e⟩ y
        obtain ⟨T2, u, z, rfl, hT, rfl, h1, h2⟩ := y
        cases h1
        obtain ⟨t1, ht1, xt1⟩ := hall.get h2
        rw [drop_at ht1] at e
        have s2 : Same H (L2.upd H1 T2 (.tup [.int (i : Nat), z])) := s1.trans (same_upd hT)
        refine ⟨T2, _, rfl, SqT.of upd_same, rfl, _, _, rfl, _, _, rfl, rfl, ?_⟩
        refine ⟨_, rfl, _, rfl, z, t1, N, i, rfl, xt1.same s2, fun H4 s4 => ⟨_, rfl, ?_⟩⟩
        have s24 := s2.trans s4
        rw [badAt_cons] at e
        cases hst : standB t1 i with
        | true =>
          rw [if_pos hst] at e
          exact iteF ⟨_, _, rfl, s24, e⟩
        | false =>
          rw [if_neg (by rw [hst]; decide)] at e
          have il : (i : Int) ≤ 160 := by
            have : i < xs.length := (List.getElem?_eq_some_iff.mp h2).1
            omega
          refine iteT ⟨_, rfl, by show 1 ≤ 1000; decide, fun e1 he1 => ⟨e1, i, rfl, upd_same, by omega, il, fun dx h1 h2 => ⟨rfl, dx, [(Str.ofString "row", .int i)], upd_same, by rw [upd_ne h2, upd_same], by rw [upd_ne h2] at h1; exact h1, ?_⟩⟩⟩
          exact q2 _ e _ dx (s24.trans (raised he1 (by rw [upd_ne h2] at h1; exact h1) rfl)) upd_same
      · rintro σ H1 ⟨y1, y2, rfl, s1, e⟩
        rw [hall.len, List.drop_of_length_le (Nat.le_refl _)] at e
        exact q1 e H1 s1
def spSame : Sp := fun vs H Q _ => ∃ (a b : Int), vs = [.int a, .int b] ∧ Q (.bl (decide (a = b))) H
theorem ok_same {f : Addr} {fd : FuncData} (F : Fun K "_law_same" "_law_same" s_law_same f fd) (T : Bi mg) (g : mg "_law_same" = some (.ref f)) (kp : PySem.W.keepIn K (.ref f) = true) (b : Binds K fd ["_law_found", "_law_due"] []) : FnOk P w K mg base CX0 2 f fd ["_law_found", "_law_due"] spSame := by
  have c_law_same : Cal P w K mg base 1 "_law_same" ["_law_found", "_law_due"] (fun _ _ _ _ => False) := ⟨f, fd, ⟨fun _ _ _ _ h => h.elim, fun _ _ _ _ _ _ _ _ _ _ _ _ _ h => h.elim⟩, g, kp, b⟩
  refine F.ok sc_law_same (fun vs H Q E h => ?_) (fun cdv A outer s H vs Q E hr h => ?_)
  · obtain ⟨x, y, rfl, _⟩ := h
    rfl
  · obtain ⟨x, y, rfl, q⟩ := h
    refine ⟨_, (pss_cons (ps_if (pt_val (pe_callB call_isi (by rfl) T.isinstance (by decide +kernel) (pa_cons (pv 1) (pa_cons (pe_bltn (v := .ty "tuple") (u := .type "tuple") (by rfl) T.tuple (by decide +kernel) rfl) pa_nil))))
        (pss_cons (ps_if (PW.pt (pw_or (pt_not (pt_val (pe_callB call_isi (by rfl) T.isinstance (by decide +kernel) (pa_cons (pv 0) (pa_cons (pe_bltn (v := .ty "tuple") (u := .type "tuple") (by rfl) T.tuple (by decide +kernel) rfl) pa_nil))))) (pw_or1 (pt_cmpR op_ne (pe_callB call_len_seq (by rfl) T.len PySem.boot_len (pa_cons (pv 0) pa_nil)) (pe_callB call_len_seq (by rfl) T.len PySem.boot_len (pa_cons (pv 1) pa_nil)) (nomark _)))))
          (pss_one (ps_ret pe_bl))
          pss_nil)
        (pss_cons (ps_for PassesOwn.never rfl (pi_range1 (by rfl) T.range (pa_cons (pe_callB call_len_seq (by rfl) T.len PySem.boot_len (pa_cons (pv 1) pa_nil)) pa_nil)) (pg_name (i := 2) sc_law_same.nd rfl (.inl rfl))
          (pss_one (ps_if (pt_not (pt_val (pe_call c_law_same.G hr (by rfl) c_law_same.g c_law_same.kp c_law_same.b .nil pass0 (pa_cons (pe_ix ix_tup (pv 0) (pv 2) (fun _ _ => rfl)) (pa_cons (pe_ix ix_tup (pv 1) (pv 2) (fun _ _ => rfl)) pa_nil)))))
            (pss_one (ps_ret pe_bl))
            pss_nil)))
        (pss_one (ps_ret pe_bl))))
        pss_nil)
      (pss_cons (ps_if (pt_val (pe_callB call_isi (by rfl) T.isinstance (by decide +kernel) (pa_cons (pv 1) (pa_cons (pe_bltn (v := .ty "bool") (u := .type "bool") (by rfl) T.bool (by decide +kernel) rfl) pa_nil))))
        (pss_one (ps_ret (pe_and (pe_callB call_isi (by rfl) T.isinstance (by decide +kernel) (pa_cons (pv 0) (pa_cons (pe_bltn (v := .ty "bool") (u := .type "bool") (by rfl) T.bool (by decide +kernel) rfl) pa_nil))) (pe_one (pe_cmpR op_eq (pv 0) (pv 1) (nomark _))))))
        pss_nil)
      (pss_cons (ps_if (pt_val (pe_callB call_isi (by rfl) T.isinstance (by decide +kernel) (pa_cons (pv 1) (pa_cons (pe_bltn (v := .ty "int") (u := .type "int") (by rfl) T.int (by decide +kernel) rfl) pa_nil))))
        (pss_one (ps_ret (pe_and (pe_callB call_isi (by rfl) T.isinstance (by decide +kernel) (pa_cons (pv 0) (pa_cons (pe_bltn (v := .ty "int") (u := .type "int") (by rfl) T.int (by decide +kernel) rfl) pa_nil))) (pe_and (pe_not (pe_callB call_isi (by rfl) T.isinstance (by decide +kernel) (pa_cons (pv 0) (pa_cons (pe_bltn (v := .ty "bool") (u := .type "bool") (by rfl) T.bool (by decide +kernel) rfl) pa_nil)))) (pe_one (pe_cmpR op_eq (pv 0) (pv 1) (nomark _)))))))
        pss_nil)
      (pss_cons (ps_if (pt_val (pe_callB call_isi (by rfl) T.isinstance (by decide +kernel) (pa_cons (pv 1) (pa_cons (pe_bltn (v := .ty "str") (u := .type "str") (by rfl) T.str (by decide +kernel) rfl) pa_nil))))
        (pss_one (ps_ret (pe_and (pe_callB call_isi (by rfl) T.isinstance (by decide +kernel) (pa_cons (pv 0) (pa_cons (pe_bltn (v := .ty "str") (u := .type "str") (by rfl) T.str (by decide +kernel) rfl) pa_nil))) (pe_one (pe_cmpR op_eq (pv 0) (pv 1) (nomark _))))))
        pss_nil)
      (pss_one (ps_ret (pe_and (pe_cmpR op_isN (pv 1) pe_non (nomark _)) (pe_one (pe_cmpR op_isN (pv 0) pe_non (nomark _)))))))))), ?_⟩
    refine ⟨_, rfl, _, _, _, _, false, rfl, .ty "tuple", .base (.int _), kit_ty (by decide +kernel), false, rfl, iteF ?_⟩
    refine ⟨_, rfl, _, _, _, _, false, rfl, .ty "bool", .base (.int _), kit_ty (by decide +kernel), false, rfl, iteF ?_⟩
    refine ⟨_, rfl, _, _, _, _, true, rfl, .ty "int", .base (.int _), kit_ty (by decide +kernel), true, rfl, iteT ?_⟩
    refine ⟨_, rfl, _, _, _, _, true, rfl, .ty "int", .base (.int _), kit_ty (by decide +kernel), true, rfl, iteT ?_⟩
    refine ⟨_, rfl, _, _, _, _, false, rfl, .ty "bool", .base (.int _), kit_ty (by decide +kernel), false, rfl, true, rfl, iteT ⟨_, rfl, _, rfl, rfl, ?_⟩⟩
    rw [dec_int]
    exact q
def oneL : List Str := ["not", "step", "next", "once", "ever"]
def twoL : List Str := ["and", "or", "until", "unless"]
def partsN (x : Str) : Nat := if x ∈ oneL then 1 else if x ∈ twoL then 2 else 0
theorem parts_n {x : Str} {n : Nat} (h : partsL.lookup x = some n) : partsN x = n := by
  have : ∀ p ∈ partsL, partsN p.1 = p.2 := by decide +kernel
  exact this _ (lookP h)
theorem forms_n {x : Str} {n : Nat} (h : formsL.lookup x = some n) : partsN x = n := by
  have : ∀ p ∈ formsL, partsN p.1 = p.2 := by decide +kernel
  exact this _ (lookF h)
def partsK : List Str := ["yes", "no", "not", "and", "or", "step"]
def formsK : List Str := ["next", "once", "ever", "until", "unless"]
theorem lookup_none {x : Str} : ∀ {l : List (Str × Nat)}, l.lookup x = none → x ∉ l.map (·.1)
  | [], _ => List.not_mem_nil
  | (y, m) :: l, h => by
    rw [List.lookup_cons] at h
    by_cases e : (x == y) = true
    · rw [e] at h
      cases h
    · rw [Bool.eq_false_iff.mpr e] at h
      rw [List.map_cons, List.mem_cons]
      rintro (rfl | k)
      · exact e (by simp)
      · exact lookup_none h k
theorem lookup_mem {x : Str} : ∀ {l : List (Str × Nat)} {n : Nat}, l.lookup x = some n → x ∈ l.map (·.1)
  | [], _, h => by cases h
  | (y, m) :: l, n, h => by
    rw [List.lookup_cons] at h
    rw [List.map_cons, List.mem_cons]
    by_cases e : (x == y) = true
    · exact .inl (eq_of_beq e)
    · rw [Bool.eq_false_iff.mpr e] at h
      exact .inr (lookup_mem h)
theorem ns_none {a : Addr} {es : Array DictEntry} {n : Nat} {ks : List Str} (l : K.lookup a = some ⟨.type "dict", none, .dict es n, #[]⟩) (m : ∀ e ∈ es.toList, ∃ x t, e.key = .str x t ∧ x ∈ ks) {z : Str} (hz : z ∉ ks) : PySem.W.nsIn K a z = some none := by
  unfold PySem.W.nsIn
  rw [l]
  dsimp only
  have h1 : es.toList.find? (·.key.isStr z) = none := List.find?_eq_none.mpr fun e he h => by
    obtain ⟨x, t, ek, hx⟩ := m e he
    rw [ek, PySem.W.isStr_of] at h
    have e2 : (x == z) = true := h
    exact hz (by rw [← eq_of_beq e2]; exact hx)
  rw [h1]
  dsimp only
  rw [if_neg]
  intro h
  obtain ⟨e, he, hr⟩ := List.any_eq_true.mp h
  obtain ⟨x, t, ek, _⟩ := m e he
  unfold DictEntry.refKey at hr
  rw [ek] at hr
  cases hr
def spParts : Sp := fun vs H Q _ => ∃ (x : Str), vs = [.str x] ∧ ∀ H', Same H H' → Q (.int (partsN x)) H'
theorem ok_parts {f : Addr} {fd : FuncData} (F : Fun K "_law_many_parts" "_law_many_parts" s_law_many_parts f fd) : FnOk P w K mg base CX0 1 f fd ["_law_word"] spParts := by
  refine F.ok sc_law_many_parts (fun vs H Q E h => ?_) (fun cdv A outer s H vs Q E hr h => ?_)
  · obtain ⟨x, rfl, _⟩ := h
    rfl
  · obtain ⟨x, rfl, q⟩ := h
    refine ⟨_, (pss_cons (ps_if (pt_cmpR op_in_seq (pv 0) (pe_lst (pa_cons pe_str (pa_cons pe_str (pa_cons pe_str (pa_cons pe_str (pa_cons pe_str pa_nil)))))) (by rfl))
        (pss_one (ps_ret pe_int))
        pss_nil)
      (pss_cons (ps_if (pt_cmpR op_in_seq (pv 0) (pe_lst (pa_cons pe_str (pa_cons pe_str (pa_cons pe_str (pa_cons pe_str pa_nil))))) (by rfl))
        (pss_one (ps_ret pe_int))
        pss_nil)
      (pss_one (ps_ret pe_int)))), ?_⟩
    refine ⟨_, rfl, by show 5 ≤ sizeLine; decide, fun L hL => ?_⟩
    have sL := same_upd (o := .lst (oneL.map V.str)) hL
    have hL0 : (L2.upd H L (.lst (oneL.map V.str))) L = some (.lst (oneL.map V.str)) := upd_same
    refine ⟨L, _, rfl, .inl (SqL.of hL0), rfl, flat_str _, _, rfl, ?_⟩
    rw [inV_str]
    unfold partsN at q
    by_cases h1 : x ∈ oneL
    · rw [if_pos h1] at q
      rw [decide_eq_true h1]
      exact iteT (q _ sL)
    · rw [if_neg h1] at q
      rw [decide_eq_false h1]
      refine iteF ⟨_, rfl, by show 4 ≤ sizeLine; decide, fun M hM => ?_⟩
      have sM := same_upd (o := .lst (twoL.map V.str)) hM
      have hM0 : (L2.upd (L2.upd H L (.lst (oneL.map V.str))) M (.lst (twoL.map V.str))) M = some (.lst (twoL.map V.str)) := upd_same
      refine ⟨M, _, rfl, .inl (SqL.of hM0), rfl, flat_str _, _, rfl, ?_⟩
      rw [inV_str]
      by_cases h2 : x ∈ twoL
      · rw [if_pos h2] at q
        rw [decide_eq_true h2]
        exact iteT (q _ (sL.trans sM))
      · rw [if_neg h2] at q
        rw [decide_eq_false h2]
        exact iteF (q _ (sL.trans sM))
def kindsL (n : Nat) : List Bool := true :: (List.range 18).map fun j => decide (j = n)
def spKinds (n : Nat) : Hp → VK → Prop := fun H Q => ∀ H' l, Same H H' → H' l = some (.lst ((kindsL n).map V.bl)) → Q (.ref l) H'
theorem dpa_bls {H : Hp} : ∀ l : List Bool, DpAll K H (l.map V.bl) (l.map PyData.bool)
  | [] => .nil
  | x :: r => .cons (.bl x) (dpa_bls r)
theorem kinds_shaped (n : Nat) (h : n < 18) : SeqAt.shaped (.list ((kindsL n).map PyData.bool)) = true := by
  have : ∀ n < 18, SeqAt.shaped (.list ((kindsL n).map PyData.bool)) = true := by decide +kernel
  exact this n h
theorem kinds_eqv (n : Nat) (h : n < 18) : PyData.eqv (.list ((kindsL n).map PyData.bool)) (.list ((kindsL n).map PyData.bool)) = true := by
  have : ∀ n < 18, PyData.eqv (.list ((kindsL n).map PyData.bool)) (.list ((kindsL n).map PyData.bool)) = true := by decide +kernel
  exact this n h
theorem ok_kinds {f : Addr} {fd : FuncData} (F : Fun K "_law_kinds" "_law_kinds" s_law_kinds f fd) (T : Bi mg) (S : XIni K mg "NoSaying") (yTreeError : XSub K mg S.R "TreeError" true) (yNoMachine : XSub K mg S.R "NoMachine" false) (yNoWishes : XSub K mg S.R "NoWishes" false) (yNoProgram : XSub K mg S.R "NoProgram" false) (yNoSaying : XSub K mg S.R "NoSaying" true) (yNoText : XSub K mg S.R "NoText" false) (yNoRun : XSub K mg S.R "NoRun" false) (yNoWay : XSub K mg S.R "NoWay" false) (yNoSheet : XSub K mg S.R "NoSheet" false) (yNoPaper : XSub K mg S.R "NoPaper" false) (yNoDeed : XSub K mg S.R "NoDeed" false) (yTwice : XSub K mg S.R "Twice" false) (yMissing : XSub K mg S.R "Missing" false) (yNothing : XSub K mg S.R "Nothing" false) (yFull : XSub K mg S.R "Full" false) (yBroken : XSub K mg S.R "Broken" false) (yTooGreat : XSub K mg S.R "TooGreat" false) (yTooMany : XSub K mg S.R "TooMany" false) (yAreAlike : XSub K mg S.R "AreAlike" false) : XI.FnE P w K mg base 1 f fd ["_law_e"] S.R (spKinds 3) := by
  refine XI.okE F sc_law_kinds rfl (fun cdv A outer s H a dd fs oe Q hz hf hd q => ?_)
  refine ⟨_, (pss_cons (ps_set (i := 1) sc_law_kinds.nd rfl (.inl rfl) (pe_lst (pa_cons (pe_callB (XI.call_isP S.E List.mem_cons_self hz hf) (by rfl) T.isinstance (by decide +kernel) (pa_cons (pv 0) (pa_cons (pe_bltn (v := .ty "ValueError") (u := .type "ValueError") (by rfl) T.ValueError (by decide +kernel) rfl) pa_nil))) (pa_cons (pe_callB (XI.call_isP S.E List.mem_cons_self hz hf) (by rfl) T.isinstance (by decide +kernel) (pa_cons (pv 0) (pa_cons (pe_glob rfl yNoMachine.x.g yNoMachine.x.r) pa_nil))) (pa_cons (pe_callB (XI.call_isP S.E List.mem_cons_self hz hf) (by rfl) T.isinstance (by decide +kernel) (pa_cons (pv 0) (pa_cons (pe_glob rfl yNoWishes.x.g yNoWishes.x.r) pa_nil))) (pa_cons (pe_callB (XI.call_isP S.E List.mem_cons_self hz hf) (by rfl) T.isinstance (by decide +kernel) (pa_cons (pv 0) (pa_cons (pe_glob rfl yNoProgram.x.g yNoProgram.x.r) pa_nil))) pa_nil))))))
      (pss_cons (ps_set (i := 1) sc_law_kinds.nd rfl (.inl rfl) (pe_op op_cat (pv 1) (pe_lst (pa_cons (pe_callB (XI.call_isP S.E List.mem_cons_self hz hf) (by rfl) T.isinstance (by decide +kernel) (pa_cons (pv 0) (pa_cons (pe_glob rfl yNoSaying.x.g yNoSaying.x.r) pa_nil))) (pa_cons (pe_callB (XI.call_isP S.E List.mem_cons_self hz hf) (by rfl) T.isinstance (by decide +kernel) (pa_cons (pv 0) (pa_cons (pe_glob rfl yNoText.x.g yNoText.x.r) pa_nil))) (pa_cons (pe_callB (XI.call_isP S.E List.mem_cons_self hz hf) (by rfl) T.isinstance (by decide +kernel) (pa_cons (pv 0) (pa_cons (pe_glob rfl yNoRun.x.g yNoRun.x.r) pa_nil))) (pa_cons (pe_callB (XI.call_isP S.E List.mem_cons_self hz hf) (by rfl) T.isinstance (by decide +kernel) (pa_cons (pv 0) (pa_cons (pe_glob rfl yNoWay.x.g yNoWay.x.r) pa_nil))) pa_nil)))))))
      (pss_cons (ps_set (i := 1) sc_law_kinds.nd rfl (.inl rfl) (pe_op op_cat (pv 1) (pe_lst (pa_cons (pe_callB (XI.call_isP S.E List.mem_cons_self hz hf) (by rfl) T.isinstance (by decide +kernel) (pa_cons (pv 0) (pa_cons (pe_glob rfl yNoSheet.x.g yNoSheet.x.r) pa_nil))) (pa_cons (pe_callB (XI.call_isP S.E List.mem_cons_self hz hf) (by rfl) T.isinstance (by decide +kernel) (pa_cons (pv 0) (pa_cons (pe_glob rfl yNoPaper.x.g yNoPaper.x.r) pa_nil))) (pa_cons (pe_callB (XI.call_isP S.E List.mem_cons_self hz hf) (by rfl) T.isinstance (by decide +kernel) (pa_cons (pv 0) (pa_cons (pe_glob rfl yNoDeed.x.g yNoDeed.x.r) pa_nil))) (pa_cons (pe_callB (XI.call_isP S.E List.mem_cons_self hz hf) (by rfl) T.isinstance (by decide +kernel) (pa_cons (pv 0) (pa_cons (pe_glob rfl yTwice.x.g yTwice.x.r) pa_nil))) pa_nil)))))))
      (pss_cons (ps_set (i := 1) sc_law_kinds.nd rfl (.inl rfl) (pe_op op_cat (pv 1) (pe_lst (pa_cons (pe_callB (XI.call_isP S.E List.mem_cons_self hz hf) (by rfl) T.isinstance (by decide +kernel) (pa_cons (pv 0) (pa_cons (pe_glob rfl yMissing.x.g yMissing.x.r) pa_nil))) (pa_cons (pe_callB (XI.call_isP S.E List.mem_cons_self hz hf) (by rfl) T.isinstance (by decide +kernel) (pa_cons (pv 0) (pa_cons (pe_glob rfl yNothing.x.g yNothing.x.r) pa_nil))) (pa_cons (pe_callB (XI.call_isP S.E List.mem_cons_self hz hf) (by rfl) T.isinstance (by decide +kernel) (pa_cons (pv 0) (pa_cons (pe_glob rfl yFull.x.g yFull.x.r) pa_nil))) (pa_cons (pe_callB (XI.call_isP S.E List.mem_cons_self hz hf) (by rfl) T.isinstance (by decide +kernel) (pa_cons (pv 0) (pa_cons (pe_glob rfl yBroken.x.g yBroken.x.r) pa_nil))) pa_nil)))))))
      (pss_one (ps_ret (pe_op op_cat (pv 1) (pe_lst (pa_cons (pe_callB (XI.call_isP S.E List.mem_cons_self hz hf) (by rfl) T.isinstance (by decide +kernel) (pa_cons (pv 0) (pa_cons (pe_glob rfl yTooGreat.x.g yTooGreat.x.r) pa_nil))) (pa_cons (pe_callB (XI.call_isP S.E List.mem_cons_self hz hf) (by rfl) T.isinstance (by decide +kernel) (pa_cons (pv 0) (pa_cons (pe_glob rfl yTooMany.x.g yTooMany.x.r) pa_nil))) (pa_cons (pe_callB (XI.call_isP S.E List.mem_cons_self hz hf) (by rfl) T.isinstance (by decide +kernel) (pa_cons (pv 0) (pa_cons (pe_glob rfl yAreAlike.x.g yAreAlike.x.r) pa_nil))) pa_nil))))))))))), ?_⟩
  refine ⟨_, rfl, .ty "ValueError", .type "ValueError", true, fs, rfl, fun u h => h, S.kitV, hd, ?_⟩
  refine ⟨_, rfl, _, _, false, fs, rfl, fun u h => h, S.kit yNoMachine, hd, ?_⟩
  refine ⟨_, rfl, _, _, false, fs, rfl, fun u h => h, S.kit yNoWishes, hd, ?_⟩
  refine ⟨_, rfl, _, _, false, fs, rfl, fun u h => h, S.kit yNoProgram, hd, by show 4 ≤ sizeLine; decide, fun l1 h1 => ?_⟩
  refine ⟨_, rfl, _, rfl, _, _, true, fs, rfl, fun u h => h, S.kit yNoSaying, (same_upd h1 _ _ hd), ?_⟩
  refine ⟨_, rfl, _, _, false, fs, rfl, fun u h => h, S.kit yNoText, (same_upd h1 _ _ hd), ?_⟩
  refine ⟨_, rfl, _, _, false, fs, rfl, fun u h => h, S.kit yNoRun, (same_upd h1 _ _ hd), ?_⟩
  refine ⟨_, rfl, _, _, false, fs, rfl, fun u h => h, S.kit yNoWay, (same_upd h1 _ _ hd), by show 4 ≤ sizeLine; decide, fun l2 h2 => ?_⟩
  refine ⟨l1, l2, _, _, rfl, rfl, (same_upd h2) _ _ upd_same, upd_same, by show 8 ≤ sizeLine; decide, fun l3 h3 => ?_⟩
  refine ⟨_, rfl, _, rfl, _, _, false, fs, rfl, fun u h => h, S.kit yNoSheet, (same_upd h3 _ _ (same_upd h2 _ _ (same_upd h1 _ _ hd))), ?_⟩
  refine ⟨_, rfl, _, _, false, fs, rfl, fun u h => h, S.kit yNoPaper, (same_upd h3 _ _ (same_upd h2 _ _ (same_upd h1 _ _ hd))), ?_⟩
  refine ⟨_, rfl, _, _, false, fs, rfl, fun u h => h, S.kit yNoDeed, (same_upd h3 _ _ (same_upd h2 _ _ (same_upd h1 _ _ hd))), ?_⟩
  refine ⟨_, rfl, _, _, false, fs, rfl, fun u h => h, S.kit yTwice, (same_upd h3 _ _ (same_upd h2 _ _ (same_upd h1 _ _ hd))), by show 4 ≤ sizeLine; decide, fun l4 h4 => ?_⟩
  refine ⟨l3, l4, _, _, rfl, rfl, (same_upd h4) _ _ upd_same, upd_same, by show 12 ≤ sizeLine; decide, fun l5 h5 => ?_⟩
  refine ⟨_, rfl, _, rfl, _, _, false, fs, rfl, fun u h => h, S.kit yMissing, (same_upd h5 _ _ (same_upd h4 _ _ (same_upd h3 _ _ (same_upd h2 _ _ (same_upd h1 _ _ hd))))), ?_⟩
  refine ⟨_, rfl, _, _, false, fs, rfl, fun u h => h, S.kit yNothing, (same_upd h5 _ _ (same_upd h4 _ _ (same_upd h3 _ _ (same_upd h2 _ _ (same_upd h1 _ _ hd))))), ?_⟩
  refine ⟨_, rfl, _, _, false, fs, rfl, fun u h => h, S.kit yFull, (same_upd h5 _ _ (same_upd h4 _ _ (same_upd h3 _ _ (same_upd h2 _ _ (same_upd h1 _ _ hd))))), ?_⟩
  refine ⟨_, rfl, _, _, false, fs, rfl, fun u h => h, S.kit yBroken, (same_upd h5 _ _ (same_upd h4 _ _ (same_upd h3 _ _ (same_upd h2 _ _ (same_upd h1 _ _ hd))))), by show 4 ≤ sizeLine; decide, fun l6 h6 => ?_⟩
  refine ⟨l5, l6, _, _, rfl, rfl, (same_upd h6) _ _ upd_same, upd_same, by show 16 ≤ sizeLine; decide, fun l7 h7 => ?_⟩
  refine ⟨_, rfl, _, rfl, _, _, false, fs, rfl, fun u h => h, S.kit yTooGreat, (same_upd h7 _ _ (same_upd h6 _ _ (same_upd h5 _ _ (same_upd h4 _ _ (same_upd h3 _ _ (same_upd h2 _ _ (same_upd h1 _ _ hd))))))), ?_⟩
  refine ⟨_, rfl, _, _, false, fs, rfl, fun u h => h, S.kit yTooMany, (same_upd h7 _ _ (same_upd h6 _ _ (same_upd h5 _ _ (same_upd h4 _ _ (same_upd h3 _ _ (same_upd h2 _ _ (same_upd h1 _ _ hd))))))), ?_⟩
  refine ⟨_, rfl, _, _, false, fs, rfl, fun u h => h, S.kit yAreAlike, (same_upd h7 _ _ (same_upd h6 _ _ (same_upd h5 _ _ (same_upd h4 _ _ (same_upd h3 _ _ (same_upd h2 _ _ (same_upd h1 _ _ hd))))))), by show 3 ≤ sizeLine; decide, fun l8 h8 => ?_⟩
  refine ⟨l7, l8, _, _, rfl, rfl, (same_upd h8) _ _ upd_same, upd_same, by show 19 ≤ sizeLine; decide, fun l9 h9 => ?_⟩
  refine q _ l9 (((((((((same_upd h1).trans (same_upd h2)).trans (same_upd h3)).trans (same_upd h4)).trans (same_upd h5)).trans (same_upd h6)).trans (same_upd h7)).trans (same_upd h8)).trans (same_upd h9)) ?_
  rw [upd_same]
  rfl
end

section
variable {P : Program} {w : World} {K : PySem.W.Frag} {mg : Str → Option Value} {base : Heap}
theorem ok_lstand {f : Addr} {fd : FuncData} (F : Fun K "_law_can_stand" "_law_can_stand" s_law_can_stand f fd) (T : Bi mg) (c_law_tuple : Cal P w K mg base 1 "_law_tuple" ["_law_thing", "_law_least", "_law_most"] (spRowT K)) (c_law_good_name : Cal P w K mg base 1 "_law_good_name" ["_law_thing"] (spNameT K))
    (c_law_number : Cal P w K mg base 1 "_law_number" ["_law_thing", "_law_low", "_law_high"] (spNumT K)) (c_law_many_parts : Cal P w K mg base 1 "_law_many_parts" ["_law_word"] spParts) : FnOk P w K mg base CX0 2 f fd ["_law_thing", "_law_at"] (spStandT K) := by
  refine F.ok sc_law_can_stand (fun vs H Q E h => ?_) (fun cdv A outer s H vs Q E hr h => ?_)
  · obtain ⟨v, t, N, k, rfl, _⟩ := h
    rfl
  · obtain ⟨v, t, N, k, rfl, x, q⟩ := h
    refine ⟨_, (pss_cons (ps_if (PW.pt (pw_or (pt_not (pt_val (pe_call c_law_tuple.G hr (by rfl) c_law_tuple.g c_law_tuple.kp c_law_tuple.b .nil pass0 (pa_cons (pv 0) (pa_cons pe_int (pa_cons pe_int pa_nil)))))) (pw_or1 (pt_not (pt_val (pe_callB call_isT (by rfl) T.isinstance (by decide +kernel) (pa_cons (pe_ix ix_tup (pv 0) pe_int (fun _ _ => rfl)) (pa_cons (pe_bltn (v := .ty "str") (u := .type "str") (by rfl) T.str (by decide +kernel) rfl) pa_nil))))))))
        (pss_one (ps_ret pe_bl))
        pss_nil)
      (pss_cons (ps_if (pt_cmpR op_eq (pe_ix ix_tup (pv 0) pe_int (fun _ _ => rfl)) pe_str (nomark _))
        (pss_one (ps_ret (pe_and (pe_cmpR op_eq (pe_callB call_lenX (by rfl) T.len PySem.boot_len (pa_cons (pv 0) pa_nil)) pe_int (nomark _)) (pe_one (pe_call c_law_good_name.G hr (by rfl) c_law_good_name.g c_law_good_name.kp c_law_good_name.b .nil pass0 (pa_cons (pe_ix ix_tup (pv 0) pe_int (fun _ _ => rfl)) pa_nil))))))
        pss_nil)
      (pss_cons (ps_set (i := 2) sc_law_can_stand.nd rfl (.inl rfl) (pe_slice sl_tupQ (pv 0) (po_some pe_int) po_none))
      (pss_cons (ps_set (i := 3) sc_law_can_stand.nd rfl (.inl rfl) (pe_ix ix_tup (pv 0) pe_int (fun _ _ => rfl)))
      (Evl.pss_cut (ps_if (PW.pt (pw_or (pt_cmpR op_eq (pv 3) pe_str (nomark _)) (pw_or1 (pt_cmpR op_eq (pv 3) pe_str (nomark _)))))
        (pss_cons (ps_if (PW.pt (pw_or (pt_cmpR op_eq (pe_callB call_lenX (by rfl) T.len PySem.boot_len (pa_cons (pv 2) pa_nil)) pe_int (nomark _)) (pw_or1 (pt_not (pt_val (pe_callB call_isT (by rfl) T.isinstance (by decide +kernel) (pa_cons (pe_ix ix_tup (pv 2) pe_int (fun _ _ => rfl)) (pa_cons (pe_bltn (v := .ty "str") (u := .type "str") (by rfl) T.str (by decide +kernel) rfl) pa_nil))))))))
          (pss_one (ps_ret pe_bl))
          pss_nil)
        (pss_cons (ps_if (pt_cmpR op_notIn_seq (pe_ix ix_tup (pv 2) pe_int (fun _ _ => rfl)) (pe_lst (pa_cons pe_str (pa_cons pe_str (pa_cons pe_str (pa_cons pe_str (pa_cons pe_str pa_nil)))))) (by rfl))
          (pss_one (ps_ret pe_bl))
          pss_nil)
        (pss_cons (ps_set (i := 3) sc_law_can_stand.nd rfl (.inl rfl) (pe_ix ix_tup (pv 2) pe_int (fun _ _ => rfl)))
        (pss_one (ps_set (i := 2) sc_law_can_stand.nd rfl (.inl rfl) (pe_slice sl_tupQ (pv 2) (po_some pe_int) po_none))))))
        (pss_one (ps_if (pt_cmpR op_notIn_seq (pv 3) (pe_lst (pa_cons pe_str (pa_cons pe_str (pa_cons pe_str (pa_cons pe_str (pa_cons pe_str (pa_cons pe_str pa_nil))))))) (by rfl))
          (pss_one (ps_ret pe_bl))
          pss_nil)))
      (pss_one (ps_ret (pe_and (pe_cmpR op_eq (pe_callB call_lenX (by rfl) T.len PySem.boot_len (pa_cons (pv 2) pa_nil)) (pe_call c_law_many_parts.G hr (by rfl) c_law_many_parts.g c_law_many_parts.kp c_law_many_parts.b .nil pass0 (pa_cons (pv 3) pa_nil)) (nomark _)) (pe_one (pe_cmpR (SAY.op_eqNil hr.units) (pe_lc (own := [("_law_k", 4)]) (g := gName 4) rfl sc_law_can_stand.nd (pi_tup (pv 2)) (blkOk_by (own := [("_law_k", 4)]) (N := ["_law_thing", "_law_at", "_law_parts", "_law_word", "_law_k"]) (sc := defScope s_law_can_stand) (by decide +kernel)) (fun _ _ _ _ _ => (pg_name (i := 4) sc_law_can_stand.nd rfl (.inl rfl))) (fun _ _ _ _ _ => (pts_one (pt_not (pt_val (pe_call c_law_number.G hr (by rfl) c_law_number.g c_law_number.kp c_law_number.b .nil pass0 (pa_cons (pv 4) (pa_cons pe_int (pa_cons (pv 1) pa_nil)))))))) (fun _ _ _ _ _ => (pv 4))) (pe_lst pa_nil) (nomark _))))))))))), ?_⟩
    refine ⟨_, rfl, v, t, N, 1, 4, rfl, x, _, rfl, ?_⟩
    cases hrow : rowB t 1 4 with
    | false =>
      have q := q H (Same.refl _)
      rw [stand_norow hrow] at q
      exact iteT q
    | true =>
      obtain ⟨a, x0, xs, t0, ts, rfl, rfl, ha, y0, hall, l3⟩ := row_str x hrow
      refine iteF ⟨_, rfl, a, _, 0, x0, rfl, rfl, ha, at_of (j := 0) rfl rfl, x0, t0, N, "str", rfl, y0, by simp [tyL], _, rfl, ?_⟩
      rcases str_or y0 with ⟨z, rfl, rfl, _, _⟩ | ⟨h1, h2⟩
      · rw [show isTh "str" (.str z) = true by simp [isTh, tyn]]
        have lts : ts.length = xs.length := hall.len.symm
        have e := stand_eq (x := z) (ts := ts) (k := k) (by omega)
        unfold rowK at e
        refine iteF ⟨_, rfl, a, _, 0, .str z, rfl, rfl, ha, at_of (j := 0) rfl rfl, rfl, _, rfl, ?_⟩
        rw [dec_str]
        by_cases hm : z = Str.ofString "mark"
        · rw [decide_eq_true hm]
          rw [if_pos hm] at e
          rw [e] at q
          refine iteT ⟨_, rfl, .inr ⟨a, _, rfl, .inr ha, rfl, _, rfl, ?_⟩⟩
          rw [dec_int]
          cases hall with
          | nil => exact iteF (q H (Same.refl _))
          | cons y1 r => cases r with
            | nil =>
              exact iteT ⟨_, rfl, a, _, 1, _, rfl, rfl, ha, at_of (j := 1) rfl rfl, _, _, N, rfl, y1, q⟩
            | cons y2 r =>
              have q : ∀ H', Same H H' → Q (.bl false) H' := q
              rw [decide_eq_false (by rw [List.length_cons, List.length_cons, List.length_cons]; omega)]
              exact iteF (q H (Same.refl _))
        · rw [decide_eq_false hm]
          rw [if_neg hm] at e
          refine iteF ⟨_, rfl, 1, rfl, a, _, rfl, ha, fun p H1 s1 hp => ?_⟩
          rw [show cutV (V.str z :: xs) (some 1) none = (V.str z :: xs).drop 1 from cut_from (k := 1) (by rw [List.length_cons]; omega)] at hp
          have hp : SqT K H1 p xs := hp
          have hall := hall.same s1
          refine ⟨_, rfl, a, _, 0, .str z, rfl, rfl, ssqt s1 ha, at_of (j := 0) rfl rfl, ?_⟩
          refine ⟨fun σ H' => ∃ (p2 : Addr) (y : Str) (ns : List V) (us : List Th), σ = [some (.ref a), some (.int k), some (.ref p2), some (.str y), none] ∧ Same H H' ∧ SqT K H' p2 ns ∧ TAll N K H' ns us ∧ ns.length ≤ 3 ∧ standB (.tup (.str z :: ts)) k = (decide (us.length = partsN y) && us.all (numB · 0 k)), ?_, ?_⟩
          · refine ⟨_, rfl, rfl, _, rfl, ?_⟩
            rw [dec_str]
            by_cases hz : z ∈ whoseL
            · rw [if_pos hz] at e
              have hz2 : z = Str.ofString "some" ∨ z = Str.ofString "all" := by
                rcases List.mem_cons.mp hz with h | h
                · exact .inl h
                · exact .inr (List.mem_singleton.mp h)
              rcases hz2 with hz2 | hz2
              all_goals first
                | (rw [decide_eq_true hz2]
                   refine iteT ⟨_, rfl, .inr ⟨p, _, rfl, .inr hp, rfl, _, rfl, ?_⟩⟩)
                | (rw [decide_eq_false (by rw [hz2]; decide +kernel)]
                   refine iteF ⟨_, rfl, rfl, _, rfl, ?_⟩
                   rw [dec_str, decide_eq_true hz2]
                   refine iteT ⟨_, rfl, .inr ⟨p, _, rfl, .inr hp, rfl, _, rfl, ?_⟩⟩)
              all_goals
                rw [dec_int]
                cases hall with
                | nil =>
                  rw [e] at q
                  exact iteT (q H1 s1)
                | @cons v1 vs1 t1 ts1 y1 r =>
                  rw [decide_eq_false (by rw [List.length_cons]; omega)]
                  refine iteF ⟨_, rfl, p, _, 0, v1, rfl, rfl, hp, at_of (j := 0) rfl rfl, v1, t1, N, "str", rfl, y1, by simp [tyL], _, rfl, ?_⟩
                  rcases str_or y1 with ⟨fm, rfl, rfl, _, _⟩ | ⟨g1, g2⟩
                  · rw [show isTh "str" (.str fm) = true by simp [isTh, tyn]]
                    refine iteF ⟨_, rfl, p, _, 0, .str fm, rfl, rfl, hp, at_of (j := 0) rfl rfl, by show 5 ≤ sizeLine; decide, fun L hL => ?_⟩
                    have sL := same_upd (o := .lst (formsK.map V.str)) hL
                    have hL0 : (L2.upd H1 L (.lst (formsK.map V.str))) L = some (.lst (formsK.map V.str)) := upd_same
                    refine ⟨L, _, rfl, .inl (SqL.of hL0), rfl, flat_str _, _, rfl, ?_⟩
                    rw [inV_str]
                    cases hf : formsL.lookup fm with
                    | none =>
                      have e : standB (.tup (.str z :: .str fm :: ts1)) k = false := by
                        rw [e]
                        show (match formsL.lookup fm with | some n => _ | none => false) = false
                        rw [hf]
                      rw [e] at q
                      rw [decide_eq_false (p := fm ∈ formsK) (lookup_none hf)]
                      exact iteT (q _ (s1.trans sL))
                    | some n =>
                      rw [decide_eq_true (p := fm ∈ formsK) (lookup_mem hf)]
                      refine iteF ⟨_, rfl, p, _, 0, .str fm, rfl, rfl, ssqt sL hp, at_of (j := 0) rfl rfl, _, rfl, 1, rfl, p, _, rfl, ssqt sL hp, fun p2 H2 s2 hp2 => ?_⟩
                      rw [show cutV (V.str fm :: vs1) (some 1) none = (V.str fm :: vs1).drop 1 from cut_from (k := 1) (by rw [List.length_cons]; omega)] at hp2
                      refine ⟨p2, fm, vs1, ts1, rfl, (s1.trans sL).trans s2, hp2, (r.same sL).same s2, by rw [List.length_cons] at l3; omega, ?_⟩
                      rw [e]
                      show (match formsL.lookup fm with | some n => _ | none => false) = _
                      rw [hf, forms_n hf]
                  · rw [g1]
                    have e : standB (.tup (.str z :: t1 :: ts1)) k = false := by
                      rw [e]
                      cases t1 with
                      | str y => simp [isTh, tyn] at g1
                      | _ => rfl
                    rw [e] at q
                    exact iteT (q H1 s1)
            · rw [if_neg hz] at e
              rw [decide_eq_false (by rintro rfl; exact hz (by decide +kernel))]
              refine iteF ⟨_, rfl, rfl, _, rfl, ?_⟩
              rw [dec_str, decide_eq_false (by rintro rfl; exact hz (by decide +kernel))]
              refine iteF ⟨_, rfl, by show 6 ≤ sizeLine; decide, fun L hL => ?_⟩
              have sL := same_upd (o := .lst (partsK.map V.str)) hL
              have hL0 : (L2.upd H1 L (.lst (partsK.map V.str))) L = some (.lst (partsK.map V.str)) := upd_same
              refine ⟨L, _, rfl, .inl (SqL.of hL0), rfl, flat_str _, _, rfl, ?_⟩
              rw [inV_str]
              cases hp' : partsL.lookup z with
              | none =>
                rw [hp'] at e
                rw [e] at q
                rw [decide_eq_false (p := z ∈ partsK) (lookup_none hp')]
                exact iteT (q _ (s1.trans sL))
              | some n =>
                rw [hp'] at e
                rw [decide_eq_true (p := z ∈ partsK) (lookup_mem hp')]
                refine iteF ⟨p, z, xs, ts, rfl, s1.trans sL, ssqt sL hp, hall.same sL, l3, ?_⟩
                rw [e, parts_n hp']
          · rintro σ H2 ⟨p2, y, ns, us, rfl, s2, hp2, hall2, ln, e2⟩
            rw [e2] at q
            have ld := hall2.len
            refine ⟨_, rfl, .inr ⟨p2, _, rfl, .inr hp2, _, rfl, y, rfl, fun H3 s3 => ⟨rfl, _, rfl, ?_⟩⟩⟩
            rw [dec_int]
            have s23 := s2.trans s3
            by_cases hl : us.length = partsN y
            · rw [decide_eq_true hl, Bool.true_and] at q
              rw [decide_eq_true (by rw [ld, hl])]
              refine iteT ⟨_, rfl, p2, rfl, ⟨_, ssqt s3 hp2⟩, fun D hD => lc_tupS (fun i acc => acc.isEmpty = (us.take i).all (numB · 0 k)) (ssqt s3 hp2) hD (by omega) rfl (fun _ => rfl) (fun i y H4 acc hi s4 e4 _ N1 N2 k1 k2 => ?_) (fun H4 acc s4 hD4 _ e4 => ?_)⟩
              · obtain ⟨t, ht, xt⟩ := (hall2.same s3).get hi
                have et : (us.take (i + 1)).all (numB · 0 k) = ((us.take i).all (numB · 0 k) && numB t 0 k) := by
                  rw [List.take_add_one, ht, List.all_append]
                  show (_ && (numB t 0 k && true)) = _
                  rw [Bool.and_true]
                refine ⟨_, rfl, _, rfl, y, t, N, 0, k, rfl, xt.same s4, _, rfl, ?_⟩
                cases hn : numB t 0 k with
                | true => exact iteF (k2 H4 (Same.refl _) (by rw [et, hn, Bool.and_true]; exact e4))
                | false => exact iteT ⟨_, rfl, k1 _ H4 (Same.refl _) (by rw [et, hn, Bool.and_false]; simp)⟩
              · rw [ld, List.take_length] at e4
                refine ⟨by show 0 ≤ sizeLine; decide, fun L hL => ⟨D, L, acc, rfl, rfl, SqL.of (same_upd hL _ _ hD4), SqL.of upd_same, ?_⟩⟩
                rw [e4]
                exact q _ ((s23.trans s4).trans (same_upd hL))
            · rw [decide_eq_false hl, Bool.false_and] at q
              rw [decide_eq_false (by rw [ld]; omega)]
              exact iteF (q _ s23)
      · have q := q H (Same.refl _)
        rw [stand_nostr h1] at q
        rw [h1]
        exact iteT q
def spFirst (K : PySem.W.Frag) : Sp := fun vs H Q _ => ∃ (v : V) (t : Th) (N : Nat), vs = [v] ∧ TAt N K H v t ∧ ∀ H', Same H H' → Q (optV (sayBad t)) H'
theorem ok_first {f : Addr} {fd : FuncData} (F : Fun K "_law_first_bad" "_law_first_bad" s_law_first_bad f fd) (T : Bi mg) (c_law_tuple : Cal P w K mg base 1 "_law_tuple" ["_law_thing", "_law_least", "_law_most"] (spRowT K)) (c_law_can_stand : Cal P w K mg base 2 "_law_can_stand" ["_law_thing", "_law_at"] (spStandT K)) :
    FnOk P w K mg base CX0 3 f fd ["_law_thing"] (spFirst K) := by
  refine F.ok sc_law_first_bad (fun vs H Q E h => ?_) (fun cdv A outer s H vs Q E hr h => ?_)
  · obtain ⟨v, t, N, rfl, _⟩ := h
    rfl
  · obtain ⟨v, t, N, rfl, x, q⟩ := h
    refine ⟨_, (pss_cons (ps_if (pt_not (pt_val (pe_call c_law_tuple.G (hr.mono (by decide)) (by rfl) c_law_tuple.g c_law_tuple.kp c_law_tuple.b .nil pass0 (pa_cons (pv 0) (pa_cons pe_int (pa_cons pe_int pa_nil))))))
        (pss_one (ps_ret (pe_un un_neg pe_int)))
        pss_nil)
      (pss_cons (ps_for PassesOwn.never rfl (pi_range1 (by rfl) T.range (pa_cons (pe_callB call_lenX (by rfl) T.len PySem.boot_len (pa_cons (pv 0) pa_nil)) pa_nil)) (pg_name (i := 1) sc_law_first_bad.nd rfl (.inl rfl))
        (pss_one (ps_if (pt_not (pt_val (pe_call c_law_can_stand.G hr (by rfl) c_law_can_stand.g c_law_can_stand.kp c_law_can_stand.b .nil pass0 (pa_cons (pe_ix ix_tup (pv 0) (pv 1) (fun _ _ => rfl)) (pa_cons (pv 1) pa_nil)))))
          (pss_one (ps_ret (pv 1)))
          pss_nil)))
      (pss_one (ps_ret pe_non)))), ?_⟩
    refine ⟨_, rfl, v, t, N, 1, 160, rfl, x, _, rfl, ?_⟩
    cases hrow : rowB t 1 160 with
    | false =>
      have e : sayBad t = some (-1) := by
        unfold sayBad
        rw [hrow]
        rfl
      rw [e] at q
      exact iteT ⟨_, rfl, q H (Same.refl _)⟩
    | true =>
      obtain ⟨a, xs, ts, rfl, rfl, hx, hall, l0, l1⟩ := row_tup x hrow
      have e0 : sayBad (.tup ts) = badAt 0 ts := by
        unfold sayBad
        rw [hrow]
        rfl
      rw [e0] at q
      refine iteF ⟨_, rfl, .inr ⟨a, xs, rfl, .inr hx, _, rfl, by omega, by omega, for_range (lo := 0) (n := ((xs.length : Nat) : Int).toNat) (fun i σ H' => ∃ y : Option V, σ = [some (.ref a), y] ∧ Same H H' ∧ badAt 0 ts = badAt i (ts.drop i)) ⟨none, rfl, Same.refl _, rfl⟩ ?_ ?_⟩⟩
      · rintro i σ H1 hi ⟨y, rfl, s1, e⟩
        rw [Int.toNat_natCast] at hi
        rw [Int.zero_add]
        obtain ⟨t1, ht1, xt1⟩ := hall.get (List.getElem?_eq_getElem hi)
        rw [drop_at ht1, badAt_cons] at e
        refine ⟨_, rfl, _, rfl, a, _, _, xs[i], rfl, rfl, ssqt s1 hx, at_of rfl (List.getElem?_eq_getElem hi), _, rfl, xs[i], t1, N, i, rfl, xt1.same s1, fun H2 s2 => ⟨_, rfl, ?_⟩⟩
        cases hst : standB t1 i with
        | true =>
          rw [if_pos hst] at e
          exact iteF ⟨_, rfl, s1.trans s2, e⟩
        | false =>
          rw [if_neg (by rw [hst]; decide)] at e
          rw [e] at q
          exact iteT ⟨_, rfl, q H2 (s1.trans s2)⟩
      · rintro σ H1 ⟨y, rfl, s1, e⟩
        rw [Int.toNat_natCast, hall.len, List.drop_of_length_le (Nat.le_refl _)] at e
        rw [e] at q
        exact q H1 s1
def spByBase (K : PySem.W.Frag) : Sp := fun vs H Q _ => ∃ (v : V) (t : Th) (N : Nat) (n : Int), vs = [v] ∧ TAt N K H v t ∧ sayBad t = some n ∧ ∀ H', Same H H' → Q (.bl true) H'
theorem ok_bybase {f : Addr} {fd : FuncData} (F : Fun K "_law_by_base" "_law_by_base" s_law_by_base f fd) (T : Bi mg) (S : XIni K mg "NoSaying") (ccheck : CalX P w K mg base 4 "check" ["thing"] (spCkS K S.R))
    (c_law_kinds : XI.CalE P w K mg base 1 "_law_kinds" ["_law_e"] S.R (spKinds 3)) : FnOk P w K mg base CX0 5 f fd ["_law_thing"] (spByBase K) := by
  have xTreeError := S.xT
  refine F.ok sc_law_by_base (fun vs H Q E h => ?_) (fun cdv A outer s H vs Q E hr h => ?_)
  · obtain ⟨v, t, N, n, rfl, _⟩ := h
    rfl
  · obtain ⟨v, t, N, n, rfl, x, bad, q⟩ := h
    refine ⟨_, (pss_cons (ps_set (i := 1) sc_law_by_base.nd rfl (.inl rfl) (pe_lst pa_nil))
      (pss_cons (ps_try_as (i := 2) rfl rfl sc_law_by_base.nd rfl rfl ⟨rfl, by decide, .inl xTreeError.g⟩ takes0 (fun W pn xe tk _ => (pss_one (ps_expr (pe_callS ccheck.G hr (by rfl) ccheck.g ccheck.kp ccheck.b (fun σ => passAt tk σ) (pa_cons (pv 0) pa_nil))))) (fun a oe cls d pn hz hf => pss_when (p := cls = .ref S.R ∧ d = some (d.getD 0)) (fun hp => (pss_one (ps_set (i := 1) sc_law_by_base.nd rfl (.inl rfl) (XI.pe_callE (dd := d.getD 0) c_law_kinds.G (KND.room_mark (hr.mono (by decide))) (by rfl) c_law_kinds.g c_law_kinds.kp c_law_kinds.b List.mem_cons_self (XI.zc_of hz hp) hf (pa_cons (pv 2) pa_nil)))))))
      (pss_one (ps_ret (pe_cmpR (op_eqD hr.units) (pv 1) (pe_op op_cat (pe_lst (pa_cons pe_bl pa_nil)) (pe_lc (own := [("_law_n", 3)]) (g := gName 3) rfl sc_law_by_base.nd (pi_range1 (by rfl) T.range (pa_cons pe_int pa_nil)) (blkOk_by (own := [("_law_n", 3)]) (N := ["_law_thing", "_law_kinds_here", "_law_e", "_law_n"]) (sc := defScope s_law_by_base) (by decide +kernel)) (fun _ _ _ _ _ => (pg_name (i := 3) sc_law_by_base.nd rfl (.inl rfl))) (fun _ _ _ _ _ => pts_nil) (fun _ _ _ _ _ => (pe_cmpR op_eq (pv 3) pe_int (nomark _))))) (nomark _)))))), ?_⟩
    refine ⟨by show 0 ≤ sizeLine; decide, fun L0 hL0 => ?_⟩
    have s0 := same_upd (o := .lst []) hL0
    refine ⟨_, rfl, v, t, N, rfl, x.same s0, fun h => absurd h (by rw [bad]; intro z; cases z), fun _ _ H1 dd s1 hd => ⟨true, xTreeError.exm S.sT, fun _ a ha => ⟨⟨rfl, rfl⟩, ?_⟩, fun q => Bool.noConfusion q⟩⟩
    refine ⟨_, rfl, rfl, ⟨_, hd⟩, fun H2 l s2 hl => ?_⟩
    refine ⟨_, rfl, by show 1 ≤ sizeLine; decide, fun T1 hT1 => ?_⟩
    have s3 := same_upd (o := .lst [.bl true]) hT1
    refine ⟨18, rfl, by decide, by decide, fun D hD => lc_rangeS (fun i acc => acc = ((List.range i).map fun j => decide (j = 3)).map V.bl) hD (by decide) rfl (fun _ => rfl) (fun i H4 acc hi s4 e _ N1 N2 k1 _ => ?_) (fun H4 acc s4 hD4 _ e => ?_)⟩
    · refine ⟨_, rfl, rfl, k1 _ H4 (Same.refl _) ?_⟩
      rw [e, List.range_succ, List.map_append, List.map_append]
      refine congrArg (fun b => _ ++ [V.bl b]) ?_
      rw [dec_int]
      refine decide_eq_decide.mpr ?_
      omega
    · subst e
      refine ⟨T1, D, _, _, rfl, rfl, s4 _ _ upd_same, hD4, by show 19 ≤ sizeLine; decide, fun C hC => ?_⟩
      have s5 := same_upd (o := .lst ((kindsL 3).map V.bl)) hC
      have hl5 := s5 _ _ (s4 _ _ (s3 _ _ hl))
      refine ⟨_, _, .lst (SqL.of hl5) (dpa_bls (kindsL 3)), .lst (SqL.of upd_same) (dpa_bls (kindsL 3)), kinds_shaped 3 (by decide), kinds_shaped 3 (by decide), ?_⟩
      rw [kinds_eqv 3 (by decide)]
      exact q _ ((((s0.trans s1).trans s2).trans s3).trans (s4.trans s5))
end

/-! ### the law's own rows and sayings -/
theorem good_unborne : GoodName (Str.ofString "unborne") := ⟨by decide +kernel, by decide +kernel, by decide +kernel, by decide +kernel⟩
abbrev s_law_row : Stmt := topS 40
theorem sc_law_row : FnScope ["_law_pool_here", "_law_names_here", "_law_at", "_law_kind", "_law_one", "_law_other", "_law_which", "_law_word"] ["_law_pool_here", "_law_names_here", "_law_at"] (defScope s_law_row) := ⟨rfl, rfl, rfl, by decide +kernel, rfl, by decide +kernel, by decide +kernel⟩
abbrev s_law_saying : Stmt := topS 41
theorem sc_law_saying : FnScope ["_law_pool_here", "_law_names_here", "_law_most", "_law_rows", "_law_k"] ["_law_pool_here", "_law_names_here", "_law_most"] (defScope s_law_saying) := ⟨rfl, rfl, rfl, by decide +kernel, rfl, by decide +kernel, by decide +kernel⟩
theorem ndec {p : Prop} [Decidable p] (h : ¬ decide p = true) : ¬ p := fun x => h (decide_eq_true x)
section
variable {P : Program} {w : World} {K : PySem.W.Frag} {mg : Str → Option Value} {base : Heap}
def spLRow (K : PySem.W.Frag) : Sp := fun vs H Q _ => ∃ (a : PA) (c : Nat) (l : Addr) (zs : List Str) (k : Nat), vs = [.ref a.p, .ref l, .int k] ∧ Pool H a c ∧ c < 700000 ∧ H l = some (.lst (zs.map V.str)) ∧ Off a l ∧ (∀ z ∈ zs, GoodName z) ∧ zs.length ≤ 8 ∧ k ≤ 160 ∧
  ∀ (H' : Hp) (t : Addr) (r : Row), Pool H' a (c + 3) → Kp a H H' → SqT K H' t r.enc → GoodRow k r → Q (.ref t) H'
theorem ok_lrow {f : Addr} {fd : FuncData} (F : Fun K "_law_row" "_law_row" s_law_row f fd) (T : Bi mg) (c_law_draw : Cal P w K mg base 1 "_law_draw" ["_law_pool_here", "_law_many"] spDraw) : FnOk P w K mg base CX0 2 f fd ["_law_pool_here", "_law_names_here", "_law_at"] (spLRow K) := by
  refine F.ok sc_law_row (fun vs H Q E h => ?_) (fun cdv A outer s H vs Q E hr h => ?_)
  · obtain ⟨a, c, l, zs, k, rfl, _⟩ := h
    rfl
  · obtain ⟨a, c, l, zs, k, rfl, PP, hc, hl, ol, gz, lz, hk, q⟩ := h
    refine ⟨_, (pss_cons (ps_set (i := 3) sc_law_row.nd rfl (.inl rfl) (pe_call c_law_draw.G hr (by rfl) c_law_draw.g c_law_draw.kp c_law_draw.b .nil pass0 (pa_cons (pv 0) (pa_cons pe_int pa_nil))))
      (pss_cons (ps_if (PW.pt (pw_or (pt_cmpR op_eq (pv 2) pe_int (nomark _)) (pw_or1 (pt_cmpR op_lt (pv 3) pe_int (nomark _)))))
        (pss_cons (ps_set (i := 3) sc_law_row.nd rfl (.inl rfl) (pe_op op_mod (pv 3) pe_int))
        (pss_cons (ps_if (pt_cmpR op_gt (pv 3) pe_int (nomark _))
          (pss_one (ps_ret (pe_tup (pa_cons pe_str (pa_cons (pe_ix ix_list (pe_op op_cat (pv 1) (pe_lst (pa_cons pe_str pa_nil))) (pe_call c_law_draw.G hr (by rfl) c_law_draw.g c_law_draw.kp c_law_draw.b .nil pass0 (pa_cons (pv 0) (pa_cons (pe_op op_add (pe_callB call_len_seq (by rfl) T.len PySem.boot_len (pa_cons (pv 1) pa_nil)) pe_int) pa_nil))) (fun _ _ => rfl)) pa_nil)))))
          pss_nil)
        (pss_one (ps_ret (pe_tup (pa_cons (pe_ix ix_list (pe_lst (pa_cons pe_str (pa_cons pe_str pa_nil))) (pv 3) (fun _ _ => rfl)) pa_nil))))))
        pss_nil)
      (pss_cons (ps_set (i := 4) sc_law_row.nd rfl (.inl rfl) (pe_op op_sub (pe_op op_sub (pv 2) pe_int) (pe_call c_law_draw.G hr (by rfl) c_law_draw.g c_law_draw.kp c_law_draw.b .nil pass0 (pa_cons (pv 0) (pa_cons (pe_callB (call_min2 rfl) (by rfl) T.min (by decide +kernel) (pa_cons (pv 2) (pa_cons pe_int pa_nil))) pa_nil)))))
      (pss_cons (ps_set (i := 5) sc_law_row.nd rfl (.inl rfl) (pe_call c_law_draw.G hr (by rfl) c_law_draw.g c_law_draw.kp c_law_draw.b .nil pass0 (pa_cons (pv 0) (pa_cons (pv 2) pa_nil))))
      (pss_cons (ps_if (pt_cmpR op_lt (pv 3) pe_int (nomark _))
        (pss_one (ps_ret (pe_ix ix_list (pe_lst (pa_cons (pe_tup (pa_cons pe_str (pa_cons (pv 4) pa_nil))) (pa_cons (pe_tup (pa_cons pe_str (pa_cons (pv 4) (pa_cons (pv 5) pa_nil)))) (pa_cons (pe_tup (pa_cons pe_str (pa_cons (pv 5) (pa_cons (pv 4) pa_nil)))) (pa_cons (pe_tup (pa_cons pe_str (pa_cons (pv 4) pa_nil))) pa_nil))))) (pe_op op_sub (pv 3) pe_int) (fun _ _ => rfl))))
        pss_nil)
      (pss_cons (ps_set (i := 6) sc_law_row.nd rfl (.inl rfl) (pe_ix ix_list (pe_lst (pa_cons pe_str (pa_cons pe_str pa_nil))) (pe_op op_mod (pv 3) pe_int) (fun _ _ => rfl)))
      (pss_cons (ps_set (i := 7) sc_law_row.nd rfl (.inl rfl) (pe_ix ix_list (pe_lst (pa_cons pe_str (pa_cons pe_str (pa_cons pe_str (pa_cons pe_str (pa_cons pe_str (pa_cons pe_str pa_nil))))))) (pe_op op_sub (pe_op op_fdiv (pv 3) pe_int) pe_int) (fun _ _ => rfl)))
      (pss_cons (ps_if (PW.pt (pw_or (pt_cmpR op_eq (pv 7) pe_str (nomark _)) (pw_or1 (pt_cmpR op_eq (pv 7) pe_str (nomark _)))))
        (pss_one (ps_ret (pe_tup (pa_cons (pv 6) (pa_cons (pv 7) (pa_cons (pv 5) (pa_cons (pv 4) pa_nil)))))))
        pss_nil)
      (pss_one (ps_ret (pe_tup (pa_cons (pv 6) (pa_cons (pv 7) (pa_cons (pv 4) pa_nil)))))))))))))), ?_⟩
    refine ⟨_, rfl, a, c, 20, rfl, PP, by omega, by decide, by decide, fun H1 r r0 r1 P1 k1 => ?_⟩
    obtain ⟨kd, rfl⟩ : ∃ j : Nat, r = (j : Int) := ⟨r.toNat, by omega⟩
    have hl1 := k1 _ _ hl ol
    have h6 : (0 : Int) ≤ kd % 6 ∧ (kd : Int) % 6 < 6 := ⟨Int.emod_nonneg _ (by decide), Int.emod_lt_of_pos _ (by decide)⟩
    refine ⟨_, rfl, rfl, _, rfl, ite2 (fun e => ?lowa) (fun e => ⟨_, rfl, _, _, rfl, rfl, _, rfl, ite2 (fun e2 => ?lowb) (fun e2 => ?high)⟩)⟩
    case lowa | lowb =>
      refine ⟨_, rfl, _, _, rfl, rfl, (by show (0 : Int) < _; decide), _, rfl, _, _, rfl, rfl, _, rfl, ite2 (fun e => ?_) (fun e => ?_)⟩
      · refine ⟨_, rfl, by show 1 ≤ sizeLine; decide, fun u hu => ?_⟩
        have ou := P1.off hu
        have hl2 := (same_upd (o := .lst [.str "unborne"]) hu) _ _ hl1
        refine ⟨l, u, _, _, rfl, rfl, hl2, upd_same, szOk (by rw [List.length_map]; show zs.length + 1 ≤ _; omega), fun b hb => ?_⟩
        have P2 := P1.upd (o := .lst [.str "unborne"]) ou
        have ob := P2.off hb
        have P3 := P2.upd (o := .lst (zs.map V.str ++ [.str "unborne"])) ob
        refine ⟨_, rfl, _, rfl, l, _, rfl, .inl (SqL.of ((same_upd hb) _ _ hl2)), _, _, rfl, rfl, a, _, ((zs.length + 1 : Nat) : Int), ?_, P3, by omega, by omega, by omega, fun H4 r4 r40 r41 P4 k4 => ?_⟩
        · rw [List.length_map]
          rfl
        · obtain ⟨j, rfl⟩ : ∃ j : Nat, r4 = (j : Int) := ⟨r4.toNat, by omega⟩
          have k2 : Kp a H1 (upd (upd H1 u (.lst [.str "unborne"])) b (.lst (zs.map V.str ++ [.str "unborne"]))) := (skp (same_upd hu)).trans (skp (same_upd hb))
          have hb4 := k4 _ _ upd_same ob
          obtain ⟨z, hz1, hz2⟩ : ∃ z, (zs.map V.str ++ [V.str "unborne"])[j]? = some (.str z) ∧ GoodName z := by
            by_cases hj : j < zs.length
            · refine ⟨zs[j], ?_, gz _ (List.getElem_mem hj)⟩
              rw [List.getElem?_append_left (by rw [List.length_map]; exact hj)]
              exact get_map (List.getElem?_eq_getElem hj)
            · refine ⟨_, ?_, good_unborne⟩
              rw [show j = zs.length by omega, List.getElem?_append_right (by rw [List.length_map]; exact Nat.le_refl _), List.length_map, Nat.sub_self]
              rfl
          refine ⟨b, _, _, _, rfl, rfl, SqL.of hb4, atI_nat hz1, by show 2 ≤ sizeLine; decide, fun t ht => ?_⟩
          exact q _ t (.mark z) ((P4.same (same_upd ht)).mono (by omega)) ((((k1.trans k2).trans k4)).trans (skp (same_upd ht))) (SqT.of upd_same) hz2
      · have e9 := ndec e
        have e8 : (kd : Int) % 6 = 0 ∨ (kd : Int) % 6 = 1 := by omega
        refine ⟨by show 2 ≤ sizeLine; decide, fun u hu => ?_⟩
        have P2 := P1.upd (o := .lst [.str "yes", .str "no"]) (P1.off hu)
        rcases e8 with e8 | e8
        · refine ⟨_, rfl, u, _, _, .str "yes", rfl, rfl, SqL.of upd_same, by rw [e8]; rfl, by show 1 ≤ sizeLine; decide, fun t ht => ?_⟩
          exact q _ t (.word "yes" []) ((P2.same (same_upd ht)).mono (by omega)) ((k1.trans (skp (same_upd hu))).trans (skp (same_upd ht))) (SqT.of upd_same) ⟨by decide +kernel, fun _ h => absurd h List.not_mem_nil⟩
        · refine ⟨_, rfl, u, _, _, .str "no", rfl, rfl, SqL.of upd_same, by rw [e8]; rfl, by show 1 ≤ sizeLine; decide, fun t ht => ?_⟩
          exact q _ t (.word "no" []) ((P2.same (same_upd ht)).mono (by omega)) ((k1.trans (skp (same_upd hu))).trans (skp (same_upd ht))) (SqT.of upd_same) ⟨by decide +kernel, fun _ h => absurd h List.not_mem_nil⟩
    case high =>
      have e1 : ¬ (k : Int) = 0 := fun h => e (decide_eq_true (by rw [h]))
      have e3 := ndec e2
      refine ⟨_, rfl, _, _, rfl, rfl, _, rfl, _, rfl, _, _, rfl, a, _, (((if k < 3 then k else 3 : Nat)) : Int), ?_, P1, by omega, by split <;> omega, by split <;> omega, fun H2 d1 d10 d11 P2 k2 => ⟨_, _, rfl, rfl, ?_⟩⟩
      · show [V.ref a.p, V.int (if (3 : Int) < (k : Int) then 3 else (k : Int))] = _
        by_cases h3 : k < 3
        · rw [if_pos h3, if_neg (by omega)]
        · rw [if_neg h3]
          by_cases h4 : (3 : Int) < k
          · rw [if_pos h4]; rfl
          · rw [if_neg h4, show (k : Int) = 3 by omega]; rfl
      have d12 : d1 < k := by
        by_cases h3 : k < 3
        · rw [if_pos h3] at d11; exact d11
        · rw [if_neg h3] at d11; omega
      refine ⟨_, rfl, _, rfl, a, _, (k : Int), rfl, P2, by omega, by omega, by omega, fun H3 d2 d20 d21 P3 k3 => ⟨_, rfl, _, _, rfl, rfl, _, rfl, ite2 (fun e4 => ?_) (fun e4 => ?_)⟩⟩
      all_goals
        have P3' : Pool H3 a (c + 3) := P3.mono (by omega)
        have k3' := (k1.trans k2).trans k3
        have o1 : 0 ≤ ((k : Int) - 1 - d1) ∧ ((k : Int) - 1 - d1) < (k : Int) := by omega
        have o2 : 0 ≤ d2 ∧ d2 < (k : Int) := ⟨d20, d21⟩
        have i1 : ∀ n ∈ [((k : Int) - 1 - d1)], 0 ≤ n ∧ n < (k : Int) := fun n hn => by rw [List.mem_singleton] at hn; rw [hn]; exact o1
        have i2 : ∀ n ∈ [((k : Int) - 1 - d1), d2], 0 ≤ n ∧ n < (k : Int) := fun n hn => by
          rcases List.mem_cons.mp hn with hn | hn
          · rw [hn]; exact o1
          · rw [List.mem_singleton] at hn; rw [hn]; exact o2
        have i3 : ∀ n ∈ [d2, ((k : Int) - 1 - d1)], 0 ≤ n ∧ n < (k : Int) := fun n hn => by
          rcases List.mem_cons.mp hn with hn | hn
          · rw [hn]; exact o2
          · rw [List.mem_singleton] at hn; rw [hn]; exact o1
      · have e5 := of_decide_eq_true e4
        refine ⟨_, rfl, by show 2 ≤ sizeLine; decide, fun t1 h1 => ⟨_, rfl, _, rfl, by show 3 ≤ sizeLine; decide, fun t2 h2 => ⟨_, rfl, _, rfl, by show 3 ≤ sizeLine; decide, fun t3 h3 => ⟨_, rfl, by show 2 ≤ sizeLine; decide, fun t4 h4 => ⟨by show 4 ≤ sizeLine; decide, fun L hL => ?_⟩⟩⟩⟩⟩
        have m1 := same_upd (o := .tup [.str "not", .int ((k : Int) - 1 - d1)]) h1
        have m2 := same_upd (o := .tup [.str "and", .int ((k : Int) - 1 - d1), .int d2]) h2
        have m3 := same_upd (o := .tup [.str "or", .int d2, .int ((k : Int) - 1 - d1)]) h3
        have m4 := same_upd (o := .tup [.str "step", .int ((k : Int) - 1 - d1)]) h4
        have m5 := same_upd (o := .lst [.ref t1, .ref t2, .ref t3, .ref t4]) hL
        have all := (((m1.trans m2).trans m3).trans m4).trans m5
        have a1 : SqT K _ t1 (Row.word "not" [((k : Int) - 1 - d1)]).enc := ssqt (((m2.trans m3).trans m4).trans m5) (SqT.of upd_same)
        have a2 : SqT K _ t2 (Row.word "and" [((k : Int) - 1 - d1), d2]).enc := ssqt ((m3.trans m4).trans m5) (SqT.of upd_same)
        have a3 : SqT K _ t3 (Row.word "or" [d2, ((k : Int) - 1 - d1)]).enc := ssqt (m4.trans m5) (SqT.of upd_same)
        have a4 : SqT K _ t4 (Row.word "step" [((k : Int) - 1 - d1)]).enc := ssqt m5 (SqT.of upd_same)
        have e6 : kd = 4 ∨ kd = 5 ∨ kd = 6 ∨ kd = 7 := by omega
        have PL := P3'.same all
        have kL := k3'.trans (skp all)
        rcases e6 with rfl | rfl | rfl | rfl
        · exact ⟨_, rfl, _, _, rfl, rfl, L, _, _, _, rfl, rfl, SqL.of upd_same, at_of (j := 0) rfl rfl, q _ t1 _ PL kL a1 ⟨(by decide +kernel : (Str.ofString "not", 1) ∈ partsL), i1⟩⟩
        · exact ⟨_, rfl, _, _, rfl, rfl, L, _, _, _, rfl, rfl, SqL.of upd_same, at_of (j := 1) rfl rfl, q _ t2 _ PL kL a2 ⟨(by decide +kernel : (Str.ofString "and", 2) ∈ partsL), i2⟩⟩
        · exact ⟨_, rfl, _, _, rfl, rfl, L, _, _, _, rfl, rfl, SqL.of upd_same, at_of (j := 2) rfl rfl, q _ t3 _ PL kL a3 ⟨(by decide +kernel : (Str.ofString "or", 2) ∈ partsL), i3⟩⟩
        · exact ⟨_, rfl, _, _, rfl, rfl, L, _, _, _, rfl, rfl, SqL.of upd_same, at_of (j := 3) rfl rfl, q _ t4 _ PL kL a4 ⟨(by decide +kernel : (Str.ofString "step", 1) ∈ partsL), i1⟩⟩
      · have e5 := ndec e4
        have c2 : (kd : Int) % 2 = 0 ∨ (kd : Int) % 2 = 1 := by omega
        obtain ⟨wh, hw, hw2⟩ : ∃ wh, atI [V.str "some", .str "all"] ((kd : Int) % 2) = some (.str wh) ∧ wh ∈ whoseL := by
          rcases c2 with c2 | c2
          · exact ⟨"some", by rw [c2]; rfl, by decide +kernel⟩
          · exact ⟨"all", by rw [c2]; rfl, by decide +kernel⟩
        obtain ⟨wd, hd, hd2⟩ : ∃ wd, atI [V.str "next", .str "once", .str "ever", .str "until", .str "unless", .str "until"] ((kd : Int) / 2 - 4) = some (.str wd) ∧ (((wd = Str.ofString "until" ∨ wd = Str.ofString "unless") ∧ (wd, 2) ∈ formsL) ∨ (¬ wd = Str.ofString "until" ∧ ¬ wd = Str.ofString "unless" ∧ (wd, 1) ∈ formsL)) := by
          have e6 : (kd : Int) / 2 = 4 ∨ (kd : Int) / 2 = 5 ∨ (kd : Int) / 2 = 6 ∨ (kd : Int) / 2 = 7 ∨ (kd : Int) / 2 = 8 ∨ (kd : Int) / 2 = 9 := by omega
          rcases e6 with e6 | e6 | e6 | e6 | e6 | e6 <;> rw [e6]
          · exact ⟨"next", rfl, .inr (by decide +kernel)⟩
          · exact ⟨"once", rfl, .inr (by decide +kernel)⟩
          · exact ⟨"ever", rfl, .inr (by decide +kernel)⟩
          · exact ⟨"until", rfl, .inl (by decide +kernel)⟩
          · exact ⟨"unless", rfl, .inl (by decide +kernel)⟩
          · exact ⟨"until", rfl, .inl (by decide +kernel)⟩
        refine ⟨by show 2 ≤ sizeLine; decide, fun t1 h1 => ⟨_, rfl, _, _, rfl, rfl, (by show (0 : Int) < _; decide), t1, _, _, _, rfl, rfl, SqL.of upd_same, hw, ?_⟩⟩
        refine ⟨by show 6 ≤ sizeLine; decide, fun t2 h2 => ⟨_, rfl, _, _, rfl, rfl, ⟨by decide, by decide⟩, _, _, rfl, rfl, t2, _, _, _, rfl, rfl, SqL.of upd_same, hd, ?_⟩⟩
        have m12 := (same_upd (o := .lst [.str "some", .str "all"]) h1).trans (same_upd (o := .lst [.str "next", .str "once", .str "ever", .str "until", .str "unless", .str "until"]) h2)
        have PL := P3'.same m12
        have kL := k3'.trans (skp m12)
        refine ⟨_, rfl, rfl, _, rfl, ite2 (fun x1 => ?wa) (fun x1 => ⟨_, rfl, rfl, _, rfl, ite2 (fun x2 => ?wb) (fun x2 => ?wc)⟩)⟩
        case wa | wb =>
          have hw3 : (wd, 2) ∈ formsL := by
            rcases hd2 with ⟨_, h⟩ | ⟨n1, n2, _⟩
            · exact h
            · first
              | exact absurd (of_decide_eq_true x2) (fun q => n2 (V.str.inj q))
              | exact absurd (of_decide_eq_true x1) (fun q => n1 (V.str.inj q))
          refine ⟨_, rfl, _, rfl, _, rfl, _, rfl, by show 4 ≤ sizeLine; decide, fun t ht => ?_⟩
          exact q _ t (.run wh wd [d2, (k : Int) - 1 - d1]) (PL.same (same_upd ht)) (kL.trans (skp (same_upd ht))) (SqT.of upd_same) ⟨hw2, hw3, i3⟩
        case wc =>
          have hw3 : (wd, 1) ∈ formsL := by
            rcases hd2 with ⟨h | h, _⟩ | ⟨_, _, h⟩
            · exact absurd (by rw [h]) (ndec x1)
            · exact absurd (by rw [h]) (ndec x2)
            · exact h
          refine ⟨_, rfl, _, rfl, _, rfl, by show 3 ≤ sizeLine; decide, fun t ht => ?_⟩
          exact q _ t (.run wh wd [(k : Int) - 1 - d1]) (PL.same (same_upd ht)) (kL.trans (skp (same_upd ht))) (SqT.of upd_same) ⟨hw2, hw3, i1⟩
def spSaying (K : PySem.W.Frag) : Sp := fun vs H Q _ => ∃ (a : PA) (c : Nat) (l : Addr) (zs : List Str) (m : Int), vs = [.ref a.p, .ref l, .int m] ∧ Pool H a c ∧ c < 600000 ∧ H l = some (.lst (zs.map V.str)) ∧ Off a l ∧ (∀ z ∈ zs, GoodName z) ∧ zs.length ≤ 8 ∧ 0 < m ∧ m ≤ 160 ∧
  ∀ (H' : Hp) (t : Addr) (rows : List Row), Pool H' a (c + 481) → Kp a H H' → SayAt K H' t rows → GoodSay rows → Q (.ref t) H'
theorem ok_saying {f : Addr} {fd : FuncData} (F : Fun K "_law_saying" "_law_saying" s_law_saying f fd) (T : Bi mg) (c_law_draw : Cal P w K mg base 1 "_law_draw" ["_law_pool_here", "_law_many"] spDraw) (c_law_row : Cal P w K mg base 2 "_law_row" ["_law_pool_here", "_law_names_here", "_law_at"] (spLRow K)) : FnOk P w K mg base CX0 3 f fd ["_law_pool_here", "_law_names_here", "_law_most"] (spSaying K) := by
  refine F.ok sc_law_saying (fun vs H Q E h => ?_) (fun cdv A outer s H vs Q E hr h => ?_)
  · obtain ⟨a, c, l, zs, m, rfl, _⟩ := h
    rfl
  · obtain ⟨a, c, l, zs, m, rfl, PP, hc, hl, ol, gz, lz, m0, m1, q⟩ := h
    refine ⟨_, (pss_cons (ps_set (i := 3) sc_law_saying.nd rfl (.inl rfl) (pe_lst pa_nil))
      (pss_cons (ps_for PassesOwn.never rfl (pi_range1 (by rfl) T.range (pa_cons (pe_op op_add pe_int (pe_call c_law_draw.G (hr.mono (by decide)) (by rfl) c_law_draw.g c_law_draw.kp c_law_draw.b .nil pass0 (pa_cons (pv 0) (pa_cons (pv 2) pa_nil)))) pa_nil)) (pg_name (i := 4) sc_law_saying.nd rfl (.inl rfl))
        (pss_one (ps_expr (pe_bm PySem.F.plainAttrs_list PySem.F.slot_list_append PySem.F.type_list_append mt_append (pv 3) (pa_cons (pe_call c_law_row.G hr (by rfl) c_law_row.g c_law_row.kp c_law_row.b .nil pass0 (pa_cons (pv 0) (pa_cons (pv 1) (pa_cons (pv 4) pa_nil)))) pa_nil)))))
      (pss_one (ps_ret (pe_callTy call_tuple_of (by rfl) T.tuple (by decide +kernel) (pa_cons (pv 3) pa_nil)))))), ?_⟩
    refine ⟨Nat.zero_le _, fun lr hlr => ?_⟩
    have olr := PP.off hlr
    refine ⟨_, rfl, _, rfl, a, c, m, rfl, PP.upd olr, by omega, m0, by omega, fun H1 r r0 r1 P1 k1 => ⟨_, _, rfl, rfl, 1 + r, rfl, by omega, by omega, for_range (lo := 0) (n := (1 + r).toNat) (fun i σ H' => ∃ (ra : List Addr) (rows : List Row) (y : Option V),
      σ = [some (.ref a.p), some (.ref l), some (.int m), some (.ref lr), y] ∧ Pool H' a (c + 1 + i * 3) ∧ Kp a H H' ∧ H' lr = some (.lst (ra.map V.ref)) ∧ Each (fun a r => SqT K H' a r.enc) ra rows ∧ rows.length = i ∧ (∀ j r, rows[j]? = some r → GoodRow j r))
      ⟨[], [], none, rfl, P1, ((Kp.refl H).mut hlr).trans k1, k1 _ _ upd_same olr, .nil, rfl, fun _ _ h => nomatch h⟩ ?_ ?_⟩⟩
    · rintro i σ H3 hi ⟨ra, rows, y, rfl, P3, k3, h3, e3, l3, g3⟩
      have i160 : i < 160 := by omega
      refine ⟨_, rfl, .inl ⟨rfl, _, SqL.of h3⟩, _, rfl, _, rfl, _, rfl, a, _, l, zs, i, by rw [Int.zero_add] <;> rfl, P3, by omega, k3 _ _ hl ol, ol, gz, lz, by omega, fun H4 t r' P4 k4 ht gr => ?_⟩
      have h4 := k4 _ _ h3 olr
      have wl := e3.len
      refine ⟨lr, _, _, rfl, rfl, h4, szLt (by rw [List.length_map]; omega), ?_⟩
      have e34 := (P3.imm k4).trans (Imm.list (o := .lst (ra.map V.ref ++ [.ref t])) h4)
      refine ⟨ra ++ [t], rows ++ [r'], some (.int (0 + i)), rfl, ?_, (k3.trans k4).mut hlr, ?_, ?_, ?_, ?_⟩
      · rw [show c + 1 + (i + 1) * 3 = c + 1 + i * 3 + 3 by omega]
        exact P4.upd olr
      · rw [upd_same, List.map_append]
        rfl
      · exact Each.snoc (R := fun a (r : Row) => SqT K (L2.upd H4 lr (.lst (ra.map V.ref ++ [.ref t]))) a r.enc) ((Imm.list (o := .lst (ra.map V.ref ++ [.ref t])) h4).sq ht) (e3.imp fun _ _ h => e34.sq h)
      · rw [List.length_append, l3]
        rfl
      · intro j r hj
        by_cases hji : j < rows.length
        · rw [List.getElem?_append_left hji] at hj
          exact g3 j r hj
        · rw [List.getElem?_append_right (by omega)] at hj
          have hj0 : j = i := by
            have := (List.getElem?_eq_some_iff.mp hj).1
            simp only [List.length_singleton] at this
            omega
          rw [hj0, l3, Nat.sub_self] at hj
          cases hj
          rw [hj0]
          exact gr
    · rintro σ H3 ⟨ra, rows, y, rfl, P3, k3, h3, e3, l3, g3⟩
      refine ⟨_, rfl, lr, _, rfl, .inl ⟨SqL.of h3, fun t ht => ?_⟩⟩
      exact q _ t rows ((P3.same (same_upd ht)).mono (by omega)) (k3.trans (skp (same_upd ht))) ⟨ra, SqT.of upd_same, e3.imp fun _ _ h => (Imm.new ht).sq h⟩ ⟨by omega, by omega, g3⟩
end

/-! ### the law -/
abbrev slaw : Stmt := topS 53
theorem sclaw : FnScope ["_law_script", "_law_pool_here", "_law_spoil", "_law_over", "_law_again", "_law_names_here", "_law_thing", "_law_at", "_law_due", "_law_found", "_law_told", "_law_e"] ["_law_script"] (defScope slaw) := ⟨rfl, rfl, rfl, by decide +kernel, rfl, by decide +kernel, by decide +kernel⟩
section
variable {P : Program} {w : World} {K : PySem.W.Frag} {mg : Str → Option Value} {base : Heap}
theorem good_cps {z : Str} (g : GoodName z) : ∀ c ∈ z.cps.toList, c < 1114112 := fun c hc => by
  have := g.al c hc
  rw [letters_eq, List.mem_range'] at this
  omega
theorem good_th {N : Nat} {H : Hp} {z : Str} (g : GoodName z) : TAt N K H (.str z) (.str z) := .str z (by have := g.hi; omega) (good_cps g)
def wordsA : List Str := ["mark", "yes", "no", "not", "and", "or", "step", "some", "all", "next", "once", "ever", "until", "unless"]
theorem word_th {N : Nat} {H : Hp} {x : Str} (h : x ∈ wordsA) : ∃ t, TAt N K H (.str x) t := by
  have : ∀ x ∈ wordsA, x.length ≤ 100 ∧ ∀ c ∈ x.cps.toList, c < 1114112 := by decide +kernel
  exact ⟨_, .str x (this x h).1 (this x h).2⟩
theorem parts_word {x : Str} {n : Nat} (h : (x, n) ∈ partsL) : x ∈ wordsA := by
  have : ∀ p ∈ partsL, p.1 ∈ wordsA := by decide +kernel
  exact this _ h
theorem forms_word {x : Str} {n : Nat} (h : (x, n) ∈ formsL) : x ∈ wordsA := by
  have : ∀ p ∈ formsL, p.1 ∈ wordsA := by decide +kernel
  exact this _ h
theorem whose_word {x : Str} (h : x ∈ whoseL) : x ∈ wordsA := by
  have : ∀ p ∈ whoseL, p ∈ wordsA := by decide +kernel
  exact this _ h
theorem parts_le {x : Str} {n : Nat} (h : (x, n) ∈ partsL) : n ≤ 2 := by
  have : ∀ p ∈ partsL, p.2 ≤ 2 := by decide +kernel
  exact this _ h
theorem forms_le {x : Str} {n : Nat} (h : (x, n) ∈ formsL) : n ≤ 2 := by
  have : ∀ p ∈ formsL, p.2 ≤ 2 := by decide +kernel
  exact this _ h
theorem enc_th {N : Nat} {H : Hp} {r : Row} {k : Nat} (g : GoodRow k r) : r.enc.length ≤ 4 ∧ ∀ v ∈ r.enc, ∃ t, TAt N K H v t := by
  cases r with
  | mark z =>
    refine ⟨by show 2 ≤ 4; decide, fun v hv => ?_⟩
    rcases List.mem_cons.mp hv with rfl | hv
    · exact word_th (by decide +kernel)
    · rw [List.mem_singleton.mp hv]
      exact ⟨_, good_th g⟩
  | word x ns =>
    have l := parts_le g.1
    refine ⟨by show (V.str x :: ns.map V.int).length ≤ 4; rw [List.length_cons, List.length_map]; omega, fun v hv => ?_⟩
    rcases List.mem_cons.mp hv with rfl | hv
    · exact word_th (parts_word g.1)
    · obtain ⟨n, _, rfl⟩ := List.mem_map.mp hv
      exact ⟨_, .int n⟩
  | run x f ns =>
    have l := forms_le g.2.1
    refine ⟨by show (V.str x :: V.str f :: ns.map V.int).length ≤ 4; rw [List.length_cons, List.length_cons, List.length_map]; omega, fun v hv => ?_⟩
    rcases List.mem_cons.mp hv with rfl | hv
    · exact word_th (whose_word g.1)
    · rcases List.mem_cons.mp hv with rfl | hv
      · exact word_th (forms_word g.2.1)
      · obtain ⟨n, _, rfl⟩ := List.mem_map.mp hv
        exact ⟨_, .int n⟩
theorem say_all {N : Nat} {H : Hp} {ra : List Addr} {rows : List Row} (h : Each (fun a r => SqT K H a r.enc) ra rows) (g : GoodSay rows) (hN : 4 ≤ N) : ∀ v ∈ ra.map V.ref, ∃ t, TAt N K H v t := fun v hv => by
  obtain ⟨a, ha, rfl⟩ := List.mem_map.mp hv
  obtain ⟨i, hi⟩ := List.mem_iff_getElem?.mp ha
  obtain ⟨r, h1, h2⟩ := h.get hi
  have e := enc_th (N := N) (K := K) (H := H) (g.gr i r h1)
  exact TAt.mk h2 (Nat.le_trans e.1 hN) e.2
theorem cutm_x {xs : List V} {lo hi : Option Int} {v : V} (h : v ∈ cutV xs lo hi) : v ∈ xs := List.mem_of_mem_drop (List.mem_of_mem_take h)
theorem cutl_x {xs : List V} {lo hi : Option Int} : (cutV xs lo hi).length ≤ xs.length := by
  unfold cutV
  rw [List.length_take, List.length_drop]
  omega
theorem repm_x {xs : List V} {v : V} : ∀ {n : Nat}, v ∈ (List.replicate n xs).flatten → v ∈ xs
  | 0, h => by cases h
  | n + 1, h => by
    rw [List.replicate_succ, List.flatten_cons] at h
    rcases List.mem_append.mp h with h | h
    · exact h
    · exact repm_x h
theorem repl_x {v : V} : ∀ n : Nat, (List.replicate n [v]).flatten.length = n
  | 0 => rfl
  | n + 1 => by
    rw [List.replicate_succ, List.flatten_cons, List.length_append, repl_x n]
    show 1 + n = n + 1
    omega
def spLaw (K : PySem.W.Frag) : Sp := fun vs H Q _ => ∃ (l : Addr) (ns : List Int), vs = [.ref l] ∧ SqL K H l (ns.map V.int) ∧ ns.length ≤ 63 ∧ ∀ H', Q (.bl true) H'
theorem ok_law {f : Addr} {fd : FuncData} (F : Fun K "law" "law" slaw f fd) (T : Bi mg) (S : XIni K mg "NoSaying") (c_law_pool : Cal P w K mg base 1 "_law_pool" ["_law_script"] (spPool K)) (c_law_draw : Cal P w K mg base 1 "_law_draw" ["_law_pool_here", "_law_many"] spDraw)
    (c_law_names : Cal P w K mg base 3 "_law_names" ["_law_pool_here", "_law_many"] spLNames) (c_law_saying : Cal P w K mg base 3 "_law_saying" ["_law_pool_here", "_law_names_here", "_law_most"] (spSaying K)) (c_law_bent : Cal P w K mg base 6 "_law_bent" ["_law_pool_here", "_law_thing", "_law_deep"] (spB K 4)) (c_law_first_bad : Cal P w K mg base 3 "_law_first_bad" ["_law_thing"] (spFirst K))
    (ccheck : CalX P w K mg base 4 "check" ["thing"] (spCkS K S.R)) (c_law_same : Cal P w K mg base 2 "_law_same" ["_law_found", "_law_due"] spSame) (c_law_by_base : Cal P w K mg base 5 "_law_by_base" ["_law_thing"] (spByBase K)) :
    FnOk P w K mg base CX0 7 f fd ["_law_script"] (spLaw K) := by
  have xNoSaying := S.xR
  refine F.ok sclaw (fun vs H Q E h => ?_) (fun cdv A outer s H vs Q E hr h => ?_)
  · obtain ⟨l, ns, rfl, _⟩ := h
    rfl
  · obtain ⟨l, ns, rfl, hS, hlen, q⟩ := h
    refine ⟨_, (pss_cons (ps_set (i := 1) sclaw.nd rfl (.inl rfl) (pe_call c_law_pool.G (hr.mono (by decide)) (by rfl) c_law_pool.g c_law_pool.kp c_law_pool.b .nil pass0 (pa_cons (pv 0) pa_nil)))
      (pss_cons (ps_set (i := 2) sclaw.nd rfl (.inl rfl) (pe_call c_law_draw.G (hr.mono (by decide)) (by rfl) c_law_draw.g c_law_draw.kp c_law_draw.b .nil pass0 (pa_cons (pv 1) (pa_cons pe_int pa_nil))))
      (pss_cons (ps_set (i := 3) sclaw.nd rfl (.inl rfl) (pe_call c_law_draw.G (hr.mono (by decide)) (by rfl) c_law_draw.g c_law_draw.kp c_law_draw.b .nil pass0 (pa_cons (pv 1) (pa_cons pe_int pa_nil))))
      (pss_cons (ps_set (i := 4) sclaw.nd rfl (.inl rfl) (pe_cmpR op_eq (pe_call c_law_draw.G (hr.mono (by decide)) (by rfl) c_law_draw.g c_law_draw.kp c_law_draw.b .nil pass0 (pa_cons (pv 1) (pa_cons pe_int pa_nil))) pe_int (nomark _)))
      (pss_cons (ps_set (i := 5) sclaw.nd rfl (.inl rfl) (pe_call c_law_names.G (hr.mono (by decide)) (by rfl) c_law_names.g c_law_names.kp c_law_names.b .nil pass0 (pa_cons (pv 1) (pa_cons pe_int pa_nil))))
      (pss_cons (ps_set (i := 6) sclaw.nd rfl (.inl rfl) (pe_call c_law_saying.G (hr.mono (by decide)) (by rfl) c_law_saying.g c_law_saying.kp c_law_saying.b .nil pass0 (pa_cons (pv 1) (pa_cons (pv 5) (pa_cons pe_int pa_nil)))))
      (Evl.pss_cut (ps_if (pt_cmpR op_eq (pv 3) pe_int (nomark _))
        (pss_one (ps_set (i := 6) sclaw.nd rfl (.inl rfl) (pe_op op_repQ (pe_tup (pa_cons (pe_tup (pa_cons pe_str pa_nil)) pa_nil)) (pe_op op_add pe_int (pe_call c_law_draw.G (hr.mono (by decide)) (by rfl) c_law_draw.g c_law_draw.kp c_law_draw.b .nil pass0 (pa_cons (pv 1) (pa_cons pe_int pa_nil)))))))
        pss_nil)
      (Evl.pss_cut (ps_if (pt_cmpR op_eq (pv 3) pe_int (nomark _))
        (pss_cons (ps_set (i := 7) sclaw.nd rfl (.inl rfl) (pe_call c_law_draw.G (hr.mono (by decide)) (by rfl) c_law_draw.g c_law_draw.kp c_law_draw.b .nil pass0 (pa_cons (pv 1) (pa_cons (pe_callB call_len_seq (by rfl) T.len PySem.boot_len (pa_cons (pv 6) pa_nil)) pa_nil))))
        (pss_one (ps_set (i := 6) sclaw.nd rfl (.inl rfl) (pe_op op_catQ (pe_op op_catQ (pe_slice sl_tupQ (pv 6) po_none (po_some (pv 7))) (pe_tup (pa_cons (pe_tup (pa_cons pe_str (pa_cons pe_str (pa_cons pe_int (pa_cons (pe_op op_add (pv 7) (pe_call c_law_draw.G (hr.mono (by decide)) (by rfl) c_law_draw.g c_law_draw.kp c_law_draw.b .nil pass0 (pa_cons (pv 1) (pa_cons pe_int pa_nil)))) pa_nil))))) pa_nil))) (pe_slice sl_tupQ (pv 6) (po_some (pe_op op_add (pv 7) pe_int)) po_none)))))
        pss_nil)
      (Evl.pss_cut (ps_if (pt_cmpR op_gt (pv 2) pe_int (nomark _))
        (pss_cons (ps_set (i := 6) sclaw.nd rfl (.inl rfl) (pe_call c_law_bent.G hr (by rfl) c_law_bent.g c_law_bent.kp c_law_bent.b .nil pass0 (pa_cons (pv 1) (pa_cons (pv 6) (pa_cons pe_int pa_nil)))))
        (pss_one (ps_if (pt_val (pv 4))
          (pss_one (ps_set (i := 6) sclaw.nd rfl (.inl rfl) (pe_call c_law_bent.G hr (by rfl) c_law_bent.g c_law_bent.kp c_law_bent.b .nil pass0 (pa_cons (pv 1) (pa_cons (pv 6) (pa_cons pe_int pa_nil))))))
          pss_nil)))
        pss_nil)
      (pss_cons (ps_set (i := 8) sclaw.nd rfl (.inl rfl) (pe_call c_law_first_bad.G (hr.mono (by decide)) (by rfl) c_law_first_bad.g c_law_first_bad.kp c_law_first_bad.b .nil pass0 (pa_cons (pv 6) pa_nil)))
      (pss_cons (ps_set (i := 9) sclaw.nd rfl (.inl rfl) pe_non)
      (pss_cons (ps_set (i := 10) sclaw.nd rfl (.inl rfl) pe_non)
      (pss_cons (ps_try_as (i := 11) rfl rfl sclaw.nd rfl rfl ⟨rfl, by decide, .inl xNoSaying.g⟩ takes0 (fun W pn xe tk _ => (pss_one (ps_set (i := 9) sclaw.nd rfl (.inl rfl) (pe_callS ccheck.G (hr.mono (by decide)) (by rfl) ccheck.g ccheck.kp ccheck.b (fun σ => passAt tk σ) (pa_cons (pv 6) pa_nil))))) (fun a oe cls d pn hz hf => pss_when (p := cls = .ref S.R ∧ d = some (d.getD 0)) (fun hp => (pss_one (ps_set (i := 10) sclaw.nd rfl (.inl rfl) (pe_xf S.xf S.no hz hf (pv 11)))))))
      (pss_cons (ps_if (pt_cmpR op_isN (pv 8) pe_non (nomark _))
        (pss_one (ps_ret (pe_and (pe_cmpR op_is_bl (pv 9) pe_bl (nomark _)) (pe_one (pe_cmpR op_isN (pv 10) pe_non (nomark _))))))
        pss_nil)
      (pss_one (ps_ret (pe_and (pe_cmpR op_isN (pv 9) pe_non (nomark _)) (pe_and (pe_call c_law_same.G (hr.mono (by decide)) (by rfl) c_law_same.g c_law_same.kp c_law_same.b .nil pass0 (pa_cons (pv 10) (pa_cons (pv 8) pa_nil))) (pe_one (pe_call c_law_by_base.G (hr.mono (by decide)) (by rfl) c_law_by_base.g c_law_by_base.kp c_law_by_base.b .nil pass0 (pa_cons (pv 6) pa_nil))))))))))))))))))))), ?_⟩
    refine ⟨_, rfl, l, ns, rfl, hS, hlen, fun H1 PL s1 P1 => ?_⟩
    refine ⟨_, rfl, PL, 0, 5, rfl, P1, by decide, by decide, by decide, fun H2 sp _ _ P2 _ => ?_⟩
    refine ⟨_, rfl, PL, _, 6, rfl, P2, by decide, by decide, by decide, fun H3 ov _ _ P3 _ => ?_⟩
    refine ⟨_, rfl, PL, _, 4, rfl, P3, by decide, by decide, by decide, fun H4 x _ _ P4 _ => ⟨rfl, ?_⟩⟩
    generalize decide (V.int x = V.int 1) = again
    refine ⟨_, rfl, PL, _, 2, rfl, P4, by decide, by decide, fun H5 ln zs P5 _ hl5 ol5 nz gz lz => ?_⟩
    have lz : zs.length = 2 := lz
    refine ⟨_, rfl, _, rfl, PL, _, ln, zs, 9, rfl, P5, by omega, hl5, ol5, gz, by omega, by decide, by decide, fun H6 t6 rows P6 _ Sy Gy => ?_⟩
    obtain ⟨ra, hra, hr2⟩ := Sy.ex
    have lra : ra.length = rows.length := hr2.len
    have all6 := say_all (N := 400) hr2 Gy (by decide)
    refine ⟨fun σ H' => ∃ (a : Addr) (xs : List V), σ = [some (.ref l), some (.ref PL.p), some (.int sp), some (.int ov), some (.bl again), some (.ref ln), some (.ref a), none, none, none, none, none] ∧ Pool H' PL 1000 ∧ SqT K H' a xs ∧ 1 ≤ xs.length ∧ xs.length ≤ 161 ∧ ∀ v ∈ xs, ∃ t, TAt 400 K H' v t, ?_, ?_⟩
    · refine ⟨_, rfl, rfl, _, rfl, ite2 (fun _ => ?_) (fun _ => ?_)⟩
      · refine ⟨by show 1 ≤ sizeLine; decide, fun e1 h1 => ⟨by show 1 ≤ sizeLine; decide, fun e2 h2 => ?_⟩⟩
        have s1 := same_upd (o := .tup [.str "yes"]) h1
        have s2 := same_upd (o := .tup [.ref e1]) h2
        refine ⟨_, rfl, PL, _, 2, rfl, P6.same (s1.trans s2), by omega, by decide, by decide, fun H7 d d0 d1 P7 K7 => ⟨_, _, rfl, rfl, ?_⟩⟩
        have tk7 := (P6.same (s1.trans s2)).imm K7
        have x2 := tk7.sq (SqT.of (K := K) (show (L2.upd (L2.upd H6 e1 (.tup [.str "yes"])) e2 (.tup [.ref e1])) e2 = some (.tup [.ref e1]) from upd_same))
        have x1 := tk7.sq (SqT.of (K := K) (s2 _ _ (show (L2.upd H6 e1 (.tup [.str "yes"])) e1 = some (.tup [.str "yes"]) from upd_same)))
        refine ⟨e2, _, _, rfl, rfl, x2, by simp, by show (1 : Int) ≤ 160 + d; omega, by show 160 + d ≤ (1000 : Int); omega, by show 1 ≤ 1000; decide, fun c H8 s8 hc => ?_⟩
        refine ⟨c, _, rfl, (P7.same s8).mono (by omega), hc, by rw [repl_x]; omega, by rw [repl_x]; omega, fun v hv => ?_⟩
        rw [List.mem_singleton.mp (repm_x hv)]
        exact TAt.mk (ssqt s8 x1) (by show 1 ≤ 400; decide) fun v hv => by
          rw [List.mem_singleton.mp hv]
          exact word_th (by decide +kernel)
      · exact ⟨t6, _, rfl, P6.mono (by omega), hra, by rw [List.length_map, lra]; exact Gy.lo, by rw [List.length_map, lra]; exact Nat.le_trans Gy.hi (by decide), all6⟩
    rintro σ H7 ⟨a, xs, rfl, P7, hx, l1, l2, all7⟩
    refine ⟨fun σ H' => ∃ (v : V) (t : Th) (y7 : Option V), σ = [some (.ref l), some (.ref PL.p), some (.int sp), some (.int ov), some (.bl again), some (.ref ln), some v, y7, none, none, none, none] ∧ Pool H' PL 1010 ∧ TAt 400 K H' v t, ?_, ?_⟩
    · refine ⟨_, rfl, rfl, _, rfl, ite2 (fun _ => ?_) (fun _ => ?_)⟩
      · refine ⟨_, rfl, _, rfl, a, xs, rfl, .inr hx, PL, _, (xs.length : Nat), rfl, P7, by decide, by omega, by omega, fun H8 d d0 d1 P8 K8 => ?_⟩
        have hx8 := (P7.imm K8).sq hx
        have all8 : ∀ v ∈ xs, ∃ t, TAt 400 K H8 v t := fun v hv => let ⟨t, h⟩ := all7 v hv; ⟨t, h.kp P7 P8 K8⟩
        refine ⟨_, rfl, _, rfl, d, rfl, a, _, rfl, hx8, fun p1 H9 s9 hp1 => ?_⟩
        refine ⟨_, rfl, _, rfl, PL, _, 2, rfl, P8.same s9, by decide, by decide, by decide, fun H10 e _ _ P10 K10 => ⟨_, _, rfl, rfl, by show 4 ≤ sizeLine; decide, fun t1 h1 => ⟨by show 1 ≤ sizeLine; decide, fun t2 h2 => ?_⟩⟩⟩
        have imm10 := (P8.same s9).imm K10
        have s1 := same_upd (o := .tup [.str "some", .str "until", .int 0, .int (d + e)]) h1
        have s2 := same_upd (o := .tup [.ref t1]) h2
        have s12 := s1.trans s2
        refine ⟨p1, t2, _, _, rfl, rfl, ssqt s12 (imm10.sq hp1), SqT.of upd_same, szOk (by have := cutl_x (xs := xs) (lo := none) (hi := some d); show _ + 1 ≤ 100000; omega), fun p3 H11 s11 hp3 => ?_⟩
        have r11 := s12.trans s11
        refine ⟨_, rfl, _, rfl, _, _, rfl, rfl, _, rfl, a, _, rfl, ssqt r11 (imm10.sq (ssqt s9 hx8)), fun p4 H12 s12' hp4 => ?_⟩
        refine ⟨p3, p4, _, _, rfl, rfl, ssqt s12' hp3, hp4, szOk (by have := cutl_x (xs := xs) (lo := none) (hi := some d); have := cutl_x (xs := xs) (lo := some (d + 1)) (hi := none); rw [List.length_append]; show _ + 1 + _ ≤ 100000; omega), fun p5 H13 s13 hp5 => ?_⟩
        have r13 := (r11.trans s12').trans s13
        have xt1 : ∃ t, TAt 400 K H13 (.ref t1) t := TAt.mk (ssqt ((s2.trans s11).trans (s12'.trans s13)) (SqT.of upd_same)) (by show 4 ≤ 400; decide) fun v hv => by
          rcases List.mem_cons.mp hv with rfl | hv
          · exact word_th (by decide +kernel)
          · rcases List.mem_cons.mp hv with rfl | hv
            · exact word_th (by decide +kernel)
            · rcases List.mem_cons.mp hv with rfl | hv
              · exact ⟨_, .int _⟩
              · rw [List.mem_singleton.mp hv]
                exact ⟨_, .int _⟩
        have all13 : ∀ v ∈ xs, ∃ t, TAt 400 K H13 v t := fun v hv => let ⟨t, h⟩ := all8 v hv; ⟨t, ((h.same s9).kp (P8.same s9) P10 K10).same r13⟩
        obtain ⟨t, xt⟩ : ∃ t, TAt 400 K H13 (.ref p5) t := TAt.mk hp5 (by
          have := cutl_x (xs := xs) (lo := none) (hi := some d)
          have := cutl_x (xs := xs) (lo := some (d + 1)) (hi := none)
          rw [List.length_append, List.length_append]
          show _ + 1 + _ ≤ 400
          omega) fun v hv => by
            rcases List.mem_append.mp hv with hv | hv
            · rcases List.mem_append.mp hv with hv | hv
              · exact all13 v (cutm_x hv)
              · rw [List.mem_singleton.mp hv]
                exact xt1
            · exact all13 v (cutm_x hv)
        exact ⟨_, t, _, rfl, (P10.same r13).mono (by omega), xt⟩
      · obtain ⟨t, xt⟩ := TAt.mk hx (by omega) all7
        exact ⟨_, t, none, rfl, P7.mono (by omega), xt⟩
    rintro σ H8 ⟨v0, t0, y7, rfl, P8, x0⟩
    refine ⟨fun σ H' => ∃ (v : V) (t : Th) (N : Nat), σ = [some (.ref l), some (.ref PL.p), some (.int sp), some (.int ov), some (.bl again), some (.ref ln), some v, y7, none, none, none, none] ∧ TAt N K H' v t, ?_, ?_⟩
    · refine ⟨_, rfl, _, _, rfl, rfl, _, rfl, ite2 (fun _ => ?_) (fun _ => ⟨v0, t0, 400, rfl, x0⟩)⟩
      refine ⟨_, rfl, _, rfl, PL, 1010, 400, _, t0, 3, rfl, P8, by decide, by decide, by decide, x0, by decide, by decide, by decide, fun H9 v' t' P9 _ x' => ?_⟩
      refine ⟨_, rfl, again, rfl, ?_⟩
      cases again with
      | true => exact iteT ⟨_, rfl, _, rfl, PL, _, 401, _, t', 3, rfl, P9, by decide, by decide, by decide, x', by decide, by decide, by decide, fun H10 v2 t2 _ _ x2 => ⟨v2, t2, 402, rfl, x2⟩⟩
      | false => exact iteF ⟨v', t', 401, rfl, x'⟩
    rintro σ H9 ⟨v, t, N, rfl, x⟩
    refine ⟨_, rfl, v, t, N, rfl, x, fun H10 s10 => ?_⟩
    have x10 := x.same s10
    refine ⟨_, rfl, v, t, N, rfl, x10, fun hb H11 s11 => ?_, fun n hb H11 dd s11 hd => ⟨true, xNoSaying.exm S.s, fun _ a ha => ⟨⟨rfl, rfl⟩, ?_⟩, fun q => Bool.noConfusion q⟩⟩
    · rw [hb]
      refine ⟨_, rfl, rfl, _, rfl, iteT ⟨_, rfl, _, _, rfl, rfl, true, rfl, iteT ⟨_, rfl, rfl, q _⟩⟩⟩
    · refine ⟨_, rfl, rfl, rfl, dd, _, .int n, rfl, hd, rfl, ?_⟩
      rw [hb]
      refine ⟨_, rfl, rfl, _, rfl, iteF ⟨_, rfl, rfl, true, rfl, iteT ⟨_, rfl, _, rfl, n, n, rfl, _, rfl, ?_⟩⟩⟩
      rw [decide_eq_true rfl]
      exact iteT ⟨_, rfl, v, t, N, n, rfl, x10.same s11, hb, fun H' _ => q H'⟩
end

/-! ### what the top has written; the law's own head -/
theorem all_mk {l : PySem.W.OpenLaw} {w : World} {K : PySem.W.Frag} {h : Heap} {mg : Str → Option Value} {fa f1 f2 f3 f4 f5 f6 f7 f8 f9 f10 f11 f12 f13 f14 f15 f16 f17 f18 f19 f20 f21 f22 f23 f24 f25 : Addr} (X : K.In h) (G : h.Ns mainGlobals mg) (hfa : mg "law" = some (.ref fa))
    {od1 an1 od2 an2 od3 an3 od4 an4 od5 an5 od6 an6 od7 an7 od8 an8 od9 an9 od10 an10 od11 an11 od12 an12 od13 an13 od14 an14 od15 an15 od16 an16 od17 an17 od18 an18 od19 an19 od20 an20 od21 an21 od22 an22 od23 an23 od24 an24 od25 an25 : Option Addr} {sl1 sl2 sl3 sl4 sl5 sl6 sl7 sl8 sl9 sl10 sl11 sl12 sl13 sl14 sl15 sl16 sl17 sl18 sl19 sl20 sl21 sl22 sl23 sl24 sl25 : Array (Option Value)} {oc1 kV1 dc1 pm1 cd1 ct1 oc2 kV2 dc2 pm2 cd2 ct2 oc3 kV3 dc3 pm3 cd3 ct3 oc4 kV4 dc4 pm4 cd4 ct4 oc5 kV5 dc5 pm5 cd5 ct5 oc6 kV6 dc6 pm6 cd6 ct6 oc7 kV7 dc7 pm7 cd7 ct7 oc8 kV8 dc8 pm8 cd8 ct8 oc9 kV9 dc9 pm9 cd9 ct9 oc10 kV10 dc10 pm10 cd10 ct10 oc11 kV11 dc11 pm11 cd11 ct11 oc12 kV12 dc12 pm12 cd12 ct12 oc13 kV13 dc13 pm13 cd13 ct13 oc14 kV14 dc14 pm14 cd14 ct14 oc15 kV15 dc15 pm15 cd15 ct15 oc16 kV16 dc16 pm16 cd16 ct16 oc17 kV17 dc17 pm17 cd17 ct17 oc18 kV18 dc18 pm18 cd18 ct18 oc19 kV19 dc19 pm19 cd19 ct19 oc20 kV20 dc20 pm20 cd20 ct20 oc21 kV21 dc21 pm21 cd21 ct21 oc22 kV22 dc22 pm22 cd22 ct22 oc23 kV23 dc23 pm23 cd23 ct23 oc24 kV24 dc24 pm24 cd24 ct24 oc25 kV25 dc25 pm25 cd25 ct25 : Value}
    (a1 : PySem.W.nsIn K mainGlobals "is_whole" = some (some (.ref f1))) (l1 : K.lookup f1 = some ⟨oc1, od1, .func (PySem.W.fnOf "is_whole" "is_whole" (defArgs sis_whole) (defBody sis_whole) (defScope sis_whole) .none kV1 dc1 pm1 an1 cd1 ct1), sl1⟩) (c1 : PySem.W.codeIn K cd1 "is_whole" = true) (k1 : PySem.W.keepIn K (.ref f1) = true)
    (a2 : PySem.W.nsIn K mainGlobals "is_number" = some (some (.ref f2))) (l2 : K.lookup f2 = some ⟨oc2, od2, .func (PySem.W.fnOf "is_number" "is_number" (defArgs sis_number) (defBody sis_number) (defScope sis_number) .none kV2 dc2 pm2 an2 cd2 ct2), sl2⟩) (c2 : PySem.W.codeIn K cd2 "is_number" = true) (k2 : PySem.W.keepIn K (.ref f2) = true)
    (a3 : PySem.W.nsIn K mainGlobals "is_row" = some (some (.ref f3))) (l3 : K.lookup f3 = some ⟨oc3, od3, .func (PySem.W.fnOf "is_row" "is_row" (defArgs sis_row) (defBody sis_row) (defScope sis_row) .none kV3 dc3 pm3 an3 cd3 ct3), sl3⟩) (c3 : PySem.W.codeIn K cd3 "is_row" = true) (k3 : PySem.W.keepIn K (.ref f3) = true)
    (a4 : PySem.W.nsIn K mainGlobals "is_name" = some (some (.ref f4))) (l4 : K.lookup f4 = some ⟨oc4, od4, .func (PySem.W.fnOf "is_name" "is_name" (defArgs sis_name) (defBody sis_name) (defScope sis_name) .none kV4 dc4 pm4 an4 cd4 ct4), sl4⟩) (c4 : PySem.W.codeIn K cd4 "is_name" = true) (k4 : PySem.W.keepIn K (.ref f4) = true)
    (a5 : PySem.W.nsIn K mainGlobals "numbers_of" = some (some (.ref f5))) (l5 : K.lookup f5 = some ⟨oc5, od5, .func (PySem.W.fnOf "numbers_of" "numbers_of" (defArgs snumbers_of) (defBody snumbers_of) (defScope snumbers_of) .none kV5 dc5 pm5 an5 cd5 ct5), sl5⟩) (c5 : PySem.W.codeIn K cd5 "numbers_of" = true) (k5 : PySem.W.keepIn K (.ref f5) = true)
    (a6 : PySem.W.nsIn K mainGlobals "can_stand" = some (some (.ref f6))) (l6 : K.lookup f6 = some ⟨oc6, od6, .func (PySem.W.fnOf "can_stand" "can_stand" (defArgs scan_stand) (defBody scan_stand) (defScope scan_stand) .none kV6 dc6 pm6 an6 cd6 ct6), sl6⟩) (c6 : PySem.W.codeIn K cd6 "can_stand" = true) (k6 : PySem.W.keepIn K (.ref f6) = true)
    (a7 : PySem.W.nsIn K mainGlobals "check" = some (some (.ref f7))) (l7 : K.lookup f7 = some ⟨oc7, od7, .func (PySem.W.fnOf "check" "check" (defArgs scheck) (defBody scheck) (defScope scheck) .none kV7 dc7 pm7 an7 cd7 ct7), sl7⟩) (c7 : PySem.W.codeIn K cd7 "check" = true) (k7 : PySem.W.keepIn K (.ref f7) = true)
    (a8 : PySem.W.nsIn K mainGlobals "_law_pool" = some (some (.ref f8))) (l8 : K.lookup f8 = some ⟨oc8, od8, .func (PySem.W.fnOf "_law_pool" "_law_pool" (defArgs s_law_pool) (defBody s_law_pool) (defScope s_law_pool) .none kV8 dc8 pm8 an8 cd8 ct8), sl8⟩) (c8 : PySem.W.codeIn K cd8 "_law_pool" = true) (k8 : PySem.W.keepIn K (.ref f8) = true)
    (a9 : PySem.W.nsIn K mainGlobals "_law_draw" = some (some (.ref f9))) (l9 : K.lookup f9 = some ⟨oc9, od9, .func (PySem.W.fnOf "_law_draw" "_law_draw" (defArgs s_law_draw) (defBody s_law_draw) (defScope s_law_draw) .none kV9 dc9 pm9 an9 cd9 ct9), sl9⟩) (c9 : PySem.W.codeIn K cd9 "_law_draw" = true) (k9 : PySem.W.keepIn K (.ref f9) = true)
    (a10 : PySem.W.nsIn K mainGlobals "_law_name" = some (some (.ref f10))) (l10 : K.lookup f10 = some ⟨oc10, od10, .func (PySem.W.fnOf "_law_name" "_law_name" (defArgs s_law_name) (defBody s_law_name) (defScope s_law_name) .none kV10 dc10 pm10 an10 cd10 ct10), sl10⟩) (c10 : PySem.W.codeIn K cd10 "_law_name" = true) (k10 : PySem.W.keepIn K (.ref f10) = true)
    (a11 : PySem.W.nsIn K mainGlobals "_law_names" = some (some (.ref f11))) (l11 : K.lookup f11 = some ⟨oc11, od11, .func (PySem.W.fnOf "_law_names" "_law_names" (defArgs s_law_names) (defBody s_law_names) (defScope s_law_names) .none kV11 dc11 pm11 an11 cd11 ct11), sl11⟩) (c11 : PySem.W.codeIn K cd11 "_law_names" = true) (k11 : PySem.W.keepIn K (.ref f11) = true)
    (a12 : PySem.W.nsIn K mainGlobals "_law_row" = some (some (.ref f12))) (l12 : K.lookup f12 = some ⟨oc12, od12, .func (PySem.W.fnOf "_law_row" "_law_row" (defArgs s_law_row) (defBody s_law_row) (defScope s_law_row) .none kV12 dc12 pm12 an12 cd12 ct12), sl12⟩) (c12 : PySem.W.codeIn K cd12 "_law_row" = true) (k12 : PySem.W.keepIn K (.ref f12) = true)
    (a13 : PySem.W.nsIn K mainGlobals "_law_saying" = some (some (.ref f13))) (l13 : K.lookup f13 = some ⟨oc13, od13, .func (PySem.W.fnOf "_law_saying" "_law_saying" (defArgs s_law_saying) (defBody s_law_saying) (defScope s_law_saying) .none kV13 dc13 pm13 an13 cd13 ct13), sl13⟩) (c13 : PySem.W.codeIn K cd13 "_law_saying" = true) (k13 : PySem.W.keepIn K (.ref f13) = true)
    (a14 : PySem.W.nsIn K mainGlobals "_law_odd" = some (some (.ref f14))) (l14 : K.lookup f14 = some ⟨oc14, od14, .func (PySem.W.fnOf "_law_odd" "_law_odd" (defArgs s_law_odd) (defBody s_law_odd) (defScope s_law_odd) .none kV14 dc14 pm14 an14 cd14 ct14), sl14⟩) (c14 : PySem.W.codeIn K cd14 "_law_odd" = true) (k14 : PySem.W.keepIn K (.ref f14) = true)
    (a15 : PySem.W.nsIn K mainGlobals "_law_bent" = some (some (.ref f15))) (l15 : K.lookup f15 = some ⟨oc15, od15, .func (PySem.W.fnOf "_law_bent" "_law_bent" (defArgs s_law_bent) (defBody s_law_bent) (defScope s_law_bent) .none kV15 dc15 pm15 an15 cd15 ct15), sl15⟩) (c15 : PySem.W.codeIn K cd15 "_law_bent" = true) (k15 : PySem.W.keepIn K (.ref f15) = true)
    (a16 : PySem.W.nsIn K mainGlobals "_law_number" = some (some (.ref f16))) (l16 : K.lookup f16 = some ⟨oc16, od16, .func (PySem.W.fnOf "_law_number" "_law_number" (defArgs s_law_number) (defBody s_law_number) (defScope s_law_number) .none kV16 dc16 pm16 an16 cd16 ct16), sl16⟩) (c16 : PySem.W.codeIn K cd16 "_law_number" = true) (k16 : PySem.W.keepIn K (.ref f16) = true)
    (a17 : PySem.W.nsIn K mainGlobals "_law_tuple" = some (some (.ref f17))) (l17 : K.lookup f17 = some ⟨oc17, od17, .func (PySem.W.fnOf "_law_tuple" "_law_tuple" (defArgs s_law_tuple) (defBody s_law_tuple) (defScope s_law_tuple) .none kV17 dc17 pm17 an17 cd17 ct17), sl17⟩) (c17 : PySem.W.codeIn K cd17 "_law_tuple" = true) (k17 : PySem.W.keepIn K (.ref f17) = true)
    (a18 : PySem.W.nsIn K mainGlobals "_law_good_name" = some (some (.ref f18))) (l18 : K.lookup f18 = some ⟨oc18, od18, .func (PySem.W.fnOf "_law_good_name" "_law_good_name" (defArgs s_law_good_name) (defBody s_law_good_name) (defScope s_law_good_name) .none kV18 dc18 pm18 an18 cd18 ct18), sl18⟩) (c18 : PySem.W.codeIn K cd18 "_law_good_name" = true) (k18 : PySem.W.keepIn K (.ref f18) = true)
    (a19 : PySem.W.nsIn K mainGlobals "_law_same" = some (some (.ref f19))) (l19 : K.lookup f19 = some ⟨oc19, od19, .func (PySem.W.fnOf "_law_same" "_law_same" (defArgs s_law_same) (defBody s_law_same) (defScope s_law_same) .none kV19 dc19 pm19 an19 cd19 ct19), sl19⟩) (c19 : PySem.W.codeIn K cd19 "_law_same" = true) (k19 : PySem.W.keepIn K (.ref f19) = true)
    (a20 : PySem.W.nsIn K mainGlobals "_law_many_parts" = some (some (.ref f20))) (l20 : K.lookup f20 = some ⟨oc20, od20, .func (PySem.W.fnOf "_law_many_parts" "_law_many_parts" (defArgs s_law_many_parts) (defBody s_law_many_parts) (defScope s_law_many_parts) .none kV20 dc20 pm20 an20 cd20 ct20), sl20⟩) (c20 : PySem.W.codeIn K cd20 "_law_many_parts" = true) (k20 : PySem.W.keepIn K (.ref f20) = true)
    (a21 : PySem.W.nsIn K mainGlobals "_law_can_stand" = some (some (.ref f21))) (l21 : K.lookup f21 = some ⟨oc21, od21, .func (PySem.W.fnOf "_law_can_stand" "_law_can_stand" (defArgs s_law_can_stand) (defBody s_law_can_stand) (defScope s_law_can_stand) .none kV21 dc21 pm21 an21 cd21 ct21), sl21⟩) (c21 : PySem.W.codeIn K cd21 "_law_can_stand" = true) (k21 : PySem.W.keepIn K (.ref f21) = true)
    (a22 : PySem.W.nsIn K mainGlobals "_law_first_bad" = some (some (.ref f22))) (l22 : K.lookup f22 = some ⟨oc22, od22, .func (PySem.W.fnOf "_law_first_bad" "_law_first_bad" (defArgs s_law_first_bad) (defBody s_law_first_bad) (defScope s_law_first_bad) .none kV22 dc22 pm22 an22 cd22 ct22), sl22⟩) (c22 : PySem.W.codeIn K cd22 "_law_first_bad" = true) (k22 : PySem.W.keepIn K (.ref f22) = true)
    (a23 : PySem.W.nsIn K mainGlobals "_law_kinds" = some (some (.ref f23))) (l23 : K.lookup f23 = some ⟨oc23, od23, .func (PySem.W.fnOf "_law_kinds" "_law_kinds" (defArgs s_law_kinds) (defBody s_law_kinds) (defScope s_law_kinds) .none kV23 dc23 pm23 an23 cd23 ct23), sl23⟩) (c23 : PySem.W.codeIn K cd23 "_law_kinds" = true) (k23 : PySem.W.keepIn K (.ref f23) = true)
    (a24 : PySem.W.nsIn K mainGlobals "_law_by_base" = some (some (.ref f24))) (l24 : K.lookup f24 = some ⟨oc24, od24, .func (PySem.W.fnOf "_law_by_base" "_law_by_base" (defArgs s_law_by_base) (defBody s_law_by_base) (defScope s_law_by_base) .none kV24 dc24 pm24 an24 cd24 ct24), sl24⟩) (c24 : PySem.W.codeIn K cd24 "_law_by_base" = true) (k24 : PySem.W.keepIn K (.ref f24) = true)
    (a25 : PySem.W.nsIn K mainGlobals "law" = some (some (.ref f25))) (l25 : K.lookup f25 = some ⟨oc25, od25, .func (PySem.W.fnOf "law" "law" (defArgs slaw) (defBody slaw) (defScope slaw) .none kV25 dc25 pm25 an25 cd25 ct25), sl25⟩) (c25 : PySem.W.codeIn K cd25 "law" = true) (k25 : PySem.W.keepIn K (.ref f25) = true)
    (z_ValueError : PySem.W.nsIn K mainGlobals "ValueError" = some none)
    (z_enumerate : PySem.W.nsIn K mainGlobals "enumerate" = some none)
    (z_range : PySem.W.nsIn K mainGlobals "range" = some none)
    (z_tuple : PySem.W.nsIn K mainGlobals "tuple" = some none)
    (z_isinstance : PySem.W.nsIn K mainGlobals "isinstance" = some none)
    (z_bool : PySem.W.nsIn K mainGlobals "bool" = some none)
    (z_int : PySem.W.nsIn K mainGlobals "int" = some none)
    (z_str : PySem.W.nsIn K mainGlobals "str" = some none)
    (z_all : PySem.W.nsIn K mainGlobals "all" = some none)
    (z_len : PySem.W.nsIn K mainGlobals "len" = some none)
    (z_min : PySem.W.nsIn K mainGlobals "min" = some none)
    (z_list : PySem.W.nsIn K mainGlobals "list" = some none)
    {aWORDS : Addr} {odWORDS : Option Addr} {itsWORDS : Array Value} {nWORDS : Nat} {slWORDS : Array (Option Value)} (gWORDS : PySem.W.nsIn K mainGlobals "WORDS" = some (some (.ref aWORDS))) (lWORDS : K.lookup aWORDS = some ⟨.type "tuple", odWORDS, .seq itsWORDS nWORDS, slWORDS⟩) (sWORDS : itsWORDS.size ≤ sizeLine) (vWORDS : Vals (wordsL.map V.str) itsWORDS.toList)
    {aWHOSE : Addr} {odWHOSE : Option Addr} {itsWHOSE : Array Value} {nWHOSE : Nat} {slWHOSE : Array (Option Value)} (gWHOSE : PySem.W.nsIn K mainGlobals "WHOSE" = some (some (.ref aWHOSE))) (lWHOSE : K.lookup aWHOSE = some ⟨.type "tuple", odWHOSE, .seq itsWHOSE nWHOSE, slWHOSE⟩) (sWHOSE : itsWHOSE.size ≤ sizeLine) (vWHOSE : Vals (whoseL.map V.str) itsWHOSE.toList)
    {uLETTERS : Value} (gLETTERS : PySem.W.nsIn K mainGlobals "LETTERS" = some (some uLETTERS)) (rLETTERS : RelV (.str lettersS) uLETTERS)
    {uLONGEST : Value} (gLONGEST : PySem.W.nsIn K mainGlobals "LONGEST" = some (some uLONGEST)) (rLONGEST : RelV (.int 160) uLONGEST)
    {aPARTS : Addr} {esPARTS : Array DictEntry} {nPARTS : Nat} (gPARTS : PySem.W.nsIn K mainGlobals "PARTS" = some (some (.ref aPARTS))) (lPARTS : K.lookup aPARTS = some ⟨.type "dict", none, .dict esPARTS nPARTS, #[]⟩) (iPARTS : PySem.W.KeysLit w.params esPARTS.toList) (wPARTS : (aPARTS == sysModules) = false)
    (mPARTS : ∀ e ∈ esPARTS.toList, ∃ x t, e.key = .str x t ∧ x ∈ partsL.map (·.1))
    {uPARTS0 : Value} (ePARTS0 : PySem.W.nsIn K aPARTS "yes" = some (some uPARTS0)) (rPARTS0 : RelV (.int 0) uPARTS0)
    {uPARTS1 : Value} (ePARTS1 : PySem.W.nsIn K aPARTS "no" = some (some uPARTS1)) (rPARTS1 : RelV (.int 0) uPARTS1)
    {uPARTS2 : Value} (ePARTS2 : PySem.W.nsIn K aPARTS "not" = some (some uPARTS2)) (rPARTS2 : RelV (.int 1) uPARTS2)
    {uPARTS3 : Value} (ePARTS3 : PySem.W.nsIn K aPARTS "and" = some (some uPARTS3)) (rPARTS3 : RelV (.int 2) uPARTS3)
    {uPARTS4 : Value} (ePARTS4 : PySem.W.nsIn K aPARTS "or" = some (some uPARTS4)) (rPARTS4 : RelV (.int 2) uPARTS4)
    {uPARTS5 : Value} (ePARTS5 : PySem.W.nsIn K aPARTS "step" = some (some uPARTS5)) (rPARTS5 : RelV (.int 1) uPARTS5)
    {aFORMS : Addr} {esFORMS : Array DictEntry} {nFORMS : Nat} (gFORMS : PySem.W.nsIn K mainGlobals "FORMS" = some (some (.ref aFORMS))) (lFORMS : K.lookup aFORMS = some ⟨.type "dict", none, .dict esFORMS nFORMS, #[]⟩) (iFORMS : PySem.W.KeysLit w.params esFORMS.toList) (wFORMS : (aFORMS == sysModules) = false)
    (mFORMS : ∀ e ∈ esFORMS.toList, ∃ x t, e.key = .str x t ∧ x ∈ formsL.map (·.1))
    {uFORMS0 : Value} (eFORMS0 : PySem.W.nsIn K aFORMS "next" = some (some uFORMS0)) (rFORMS0 : RelV (.int 1) uFORMS0)
    {uFORMS1 : Value} (eFORMS1 : PySem.W.nsIn K aFORMS "once" = some (some uFORMS1)) (rFORMS1 : RelV (.int 1) uFORMS1)
    {uFORMS2 : Value} (eFORMS2 : PySem.W.nsIn K aFORMS "ever" = some (some uFORMS2)) (rFORMS2 : RelV (.int 1) uFORMS2)
    {uFORMS3 : Value} (eFORMS3 : PySem.W.nsIn K aFORMS "until" = some (some uFORMS3)) (rFORMS3 : RelV (.int 2) uFORMS3)
    {uFORMS4 : Value} (eFORMS4 : PySem.W.nsIn K aFORMS "unless" = some (some uFORMS4)) (rFORMS4 : RelV (.int 2) uFORMS4)
    {xcNoSaying : Addr} (gXNoSaying : PySem.W.nsIn K mainGlobals "NoSaying" = some (some (.ref xcNoSaying))) (kXNoSaying : PySem.W.keepIn K (.ref xcNoSaying) = true) (bXNoSaying : PySem.W.subIn K (.ref xcNoSaying) (.type "BaseException") = some true) (tXNoSaying : PySem.W.typeIn K (.ref xcNoSaying) = some (.type "type")) (hXNoSaying : PySem.W.hasDictIn K xcNoSaying = true)
    {xcTreeError : Addr} (gXTreeError : PySem.W.nsIn K mainGlobals "TreeError" = some (some (.ref xcTreeError))) (kXTreeError : PySem.W.keepIn K (.ref xcTreeError) = true) (bXTreeError : PySem.W.subIn K (.ref xcTreeError) (.type "BaseException") = some true) (tXTreeError : PySem.W.typeIn K (.ref xcTreeError) = some (.type "type")) (hXTreeError : PySem.W.hasDictIn K xcTreeError = true)
    {fI : Addr} (iI : PySem.W.findIn K (.ref xcNoSaying) "__init__" = some (some (.ref fI)))
    {odI anI : Option Addr} {slI : Array (Option Value)} {ocI kVI dcI pmI cdI ctI : Value} (lI : K.lookup fI = some ⟨ocI, odI, .func (PySem.W.fnOf "__init__" "NoSaying.__init__" (defArgs sNoSaying___init__) (defBody sNoSaying___init__) (defScope sNoSaying___init__) .none kVI dcI pmI anI cdI ctI), slI⟩) (cI : PySem.W.codeIn K cdI "NoSaying.__init__" = true) (kI : PySem.W.keepIn K (.ref fI) = true)
    {nmI qI : Str} {NI : Addr} {bsI bmI : List Value} {snI : List Str} {subI : List Value} {abI : Bool} {colI : Option Bool} {ddI : Option Addr} {k0I k1I k2I k3I k5I : Option Value} (oI : K.lookup xcNoSaying = some (excClassObj nmI qI xcNoSaying NI bsI bmI true snI subI abI colI ddI k0I k1I k2I k3I k5I "ValueError.__new__")) (bI : PySem.HandSPX.refsVE bmI = true)
    (jI1 : PySem.W.findIn K (.ref xcNoSaying) "__setattr__" = some (some (.builtin "object.__setattr__")))
    (jI2 : PySem.W.typeIn K (.ref fI) = some (.type "function"))
    (jI3 : PySem.W.findIn K (.ref xcNoSaying) "row" = some none)
    (jI4 : PySem.W.readsIn K xcTreeError (.type "type") = true)
    (jI5 : PySem.W.specialIn K (.ref xcTreeError) "__getattribute__" = some (some (.builtin "type.__getattribute__")))
    (jI6 : PySem.W.findCls K (.ref xcTreeError) (.type "type") "__init__" = some (.val (.builtin "ValueError.__init__")))
    (e1 : PySem.W.findIn K (.ref xcNoSaying) "__getattribute__" = some (some (.builtin "BaseException.__getattribute__")))
    (e2 : PySem.W.findIn K (.ref xcNoSaying) "__getattr__" = some none)
    (e3 : PySem.W.findIn K (.ref xcNoSaying) "__class__" = some (some (.builtin "object.__class__")))
    (e4 : PySem.W.specialIn K (.builtin "object.__class__") "__get__" = some (some (.builtin "getset_descriptor.__get__")))
    (e5 : PySem.W.takesIn K (.builtin "object.__class__") = some true)
    (e6 : PySem.W.mroIn K xcNoSaying (.type "object") = some true)
    (e7 : PySem.W.subIn K (.ref xcNoSaying) (.ref xcNoSaying) = some true)
    (e8 : PySem.W.subIn K (.ref xcNoSaying) (.type "ValueError") = some true)
    (eT : PySem.W.subIn K (.ref xcNoSaying) (.ref xcTreeError) = some true)
    (sXTreeError : PySem.W.subIn K (.ref xcNoSaying) (.ref xcTreeError) = some true)
    {xcNoMachine : Addr} (gXNoMachine : PySem.W.nsIn K mainGlobals "NoMachine" = some (some (.ref xcNoMachine))) (kXNoMachine : PySem.W.keepIn K (.ref xcNoMachine) = true) (bXNoMachine : PySem.W.subIn K (.ref xcNoMachine) (.type "BaseException") = some true) (tXNoMachine : PySem.W.typeIn K (.ref xcNoMachine) = some (.type "type")) (hXNoMachine : PySem.W.hasDictIn K xcNoMachine = true)
    (sXNoMachine : PySem.W.subIn K (.ref xcNoSaying) (.ref xcNoMachine) = some false)
    {xcNoWishes : Addr} (gXNoWishes : PySem.W.nsIn K mainGlobals "NoWishes" = some (some (.ref xcNoWishes))) (kXNoWishes : PySem.W.keepIn K (.ref xcNoWishes) = true) (bXNoWishes : PySem.W.subIn K (.ref xcNoWishes) (.type "BaseException") = some true) (tXNoWishes : PySem.W.typeIn K (.ref xcNoWishes) = some (.type "type")) (hXNoWishes : PySem.W.hasDictIn K xcNoWishes = true)
    (sXNoWishes : PySem.W.subIn K (.ref xcNoSaying) (.ref xcNoWishes) = some false)
    {xcNoProgram : Addr} (gXNoProgram : PySem.W.nsIn K mainGlobals "NoProgram" = some (some (.ref xcNoProgram))) (kXNoProgram : PySem.W.keepIn K (.ref xcNoProgram) = true) (bXNoProgram : PySem.W.subIn K (.ref xcNoProgram) (.type "BaseException") = some true) (tXNoProgram : PySem.W.typeIn K (.ref xcNoProgram) = some (.type "type")) (hXNoProgram : PySem.W.hasDictIn K xcNoProgram = true)
    (sXNoProgram : PySem.W.subIn K (.ref xcNoSaying) (.ref xcNoProgram) = some false)
    (sXNoSaying : PySem.W.subIn K (.ref xcNoSaying) (.ref xcNoSaying) = some true)
    {xcNoText : Addr} (gXNoText : PySem.W.nsIn K mainGlobals "NoText" = some (some (.ref xcNoText))) (kXNoText : PySem.W.keepIn K (.ref xcNoText) = true) (bXNoText : PySem.W.subIn K (.ref xcNoText) (.type "BaseException") = some true) (tXNoText : PySem.W.typeIn K (.ref xcNoText) = some (.type "type")) (hXNoText : PySem.W.hasDictIn K xcNoText = true)
    (sXNoText : PySem.W.subIn K (.ref xcNoSaying) (.ref xcNoText) = some false)
    {xcNoRun : Addr} (gXNoRun : PySem.W.nsIn K mainGlobals "NoRun" = some (some (.ref xcNoRun))) (kXNoRun : PySem.W.keepIn K (.ref xcNoRun) = true) (bXNoRun : PySem.W.subIn K (.ref xcNoRun) (.type "BaseException") = some true) (tXNoRun : PySem.W.typeIn K (.ref xcNoRun) = some (.type "type")) (hXNoRun : PySem.W.hasDictIn K xcNoRun = true)
    (sXNoRun : PySem.W.subIn K (.ref xcNoSaying) (.ref xcNoRun) = some false)
    {xcNoWay : Addr} (gXNoWay : PySem.W.nsIn K mainGlobals "NoWay" = some (some (.ref xcNoWay))) (kXNoWay : PySem.W.keepIn K (.ref xcNoWay) = true) (bXNoWay : PySem.W.subIn K (.ref xcNoWay) (.type "BaseException") = some true) (tXNoWay : PySem.W.typeIn K (.ref xcNoWay) = some (.type "type")) (hXNoWay : PySem.W.hasDictIn K xcNoWay = true)
    (sXNoWay : PySem.W.subIn K (.ref xcNoSaying) (.ref xcNoWay) = some false)
    {xcNoSheet : Addr} (gXNoSheet : PySem.W.nsIn K mainGlobals "NoSheet" = some (some (.ref xcNoSheet))) (kXNoSheet : PySem.W.keepIn K (.ref xcNoSheet) = true) (bXNoSheet : PySem.W.subIn K (.ref xcNoSheet) (.type "BaseException") = some true) (tXNoSheet : PySem.W.typeIn K (.ref xcNoSheet) = some (.type "type")) (hXNoSheet : PySem.W.hasDictIn K xcNoSheet = true)
    (sXNoSheet : PySem.W.subIn K (.ref xcNoSaying) (.ref xcNoSheet) = some false)
    {xcNoPaper : Addr} (gXNoPaper : PySem.W.nsIn K mainGlobals "NoPaper" = some (some (.ref xcNoPaper))) (kXNoPaper : PySem.W.keepIn K (.ref xcNoPaper) = true) (bXNoPaper : PySem.W.subIn K (.ref xcNoPaper) (.type "BaseException") = some true) (tXNoPaper : PySem.W.typeIn K (.ref xcNoPaper) = some (.type "type")) (hXNoPaper : PySem.W.hasDictIn K xcNoPaper = true)
    (sXNoPaper : PySem.W.subIn K (.ref xcNoSaying) (.ref xcNoPaper) = some false)
    {xcNoDeed : Addr} (gXNoDeed : PySem.W.nsIn K mainGlobals "NoDeed" = some (some (.ref xcNoDeed))) (kXNoDeed : PySem.W.keepIn K (.ref xcNoDeed) = true) (bXNoDeed : PySem.W.subIn K (.ref xcNoDeed) (.type "BaseException") = some true) (tXNoDeed : PySem.W.typeIn K (.ref xcNoDeed) = some (.type "type")) (hXNoDeed : PySem.W.hasDictIn K xcNoDeed = true)
    (sXNoDeed : PySem.W.subIn K (.ref xcNoSaying) (.ref xcNoDeed) = some false)
    {xcTwice : Addr} (gXTwice : PySem.W.nsIn K mainGlobals "Twice" = some (some (.ref xcTwice))) (kXTwice : PySem.W.keepIn K (.ref xcTwice) = true) (bXTwice : PySem.W.subIn K (.ref xcTwice) (.type "BaseException") = some true) (tXTwice : PySem.W.typeIn K (.ref xcTwice) = some (.type "type")) (hXTwice : PySem.W.hasDictIn K xcTwice = true)
    (sXTwice : PySem.W.subIn K (.ref xcNoSaying) (.ref xcTwice) = some false)
    {xcMissing : Addr} (gXMissing : PySem.W.nsIn K mainGlobals "Missing" = some (some (.ref xcMissing))) (kXMissing : PySem.W.keepIn K (.ref xcMissing) = true) (bXMissing : PySem.W.subIn K (.ref xcMissing) (.type "BaseException") = some true) (tXMissing : PySem.W.typeIn K (.ref xcMissing) = some (.type "type")) (hXMissing : PySem.W.hasDictIn K xcMissing = true)
    (sXMissing : PySem.W.subIn K (.ref xcNoSaying) (.ref xcMissing) = some false)
    {xcNothing : Addr} (gXNothing : PySem.W.nsIn K mainGlobals "Nothing" = some (some (.ref xcNothing))) (kXNothing : PySem.W.keepIn K (.ref xcNothing) = true) (bXNothing : PySem.W.subIn K (.ref xcNothing) (.type "BaseException") = some true) (tXNothing : PySem.W.typeIn K (.ref xcNothing) = some (.type "type")) (hXNothing : PySem.W.hasDictIn K xcNothing = true)
    (sXNothing : PySem.W.subIn K (.ref xcNoSaying) (.ref xcNothing) = some false)
    {xcFull : Addr} (gXFull : PySem.W.nsIn K mainGlobals "Full" = some (some (.ref xcFull))) (kXFull : PySem.W.keepIn K (.ref xcFull) = true) (bXFull : PySem.W.subIn K (.ref xcFull) (.type "BaseException") = some true) (tXFull : PySem.W.typeIn K (.ref xcFull) = some (.type "type")) (hXFull : PySem.W.hasDictIn K xcFull = true)
    (sXFull : PySem.W.subIn K (.ref xcNoSaying) (.ref xcFull) = some false)
    {xcBroken : Addr} (gXBroken : PySem.W.nsIn K mainGlobals "Broken" = some (some (.ref xcBroken))) (kXBroken : PySem.W.keepIn K (.ref xcBroken) = true) (bXBroken : PySem.W.subIn K (.ref xcBroken) (.type "BaseException") = some true) (tXBroken : PySem.W.typeIn K (.ref xcBroken) = some (.type "type")) (hXBroken : PySem.W.hasDictIn K xcBroken = true)
    (sXBroken : PySem.W.subIn K (.ref xcNoSaying) (.ref xcBroken) = some false)
    {xcTooGreat : Addr} (gXTooGreat : PySem.W.nsIn K mainGlobals "TooGreat" = some (some (.ref xcTooGreat))) (kXTooGreat : PySem.W.keepIn K (.ref xcTooGreat) = true) (bXTooGreat : PySem.W.subIn K (.ref xcTooGreat) (.type "BaseException") = some true) (tXTooGreat : PySem.W.typeIn K (.ref xcTooGreat) = some (.type "type")) (hXTooGreat : PySem.W.hasDictIn K xcTooGreat = true)
    (sXTooGreat : PySem.W.subIn K (.ref xcNoSaying) (.ref xcTooGreat) = some false)
    {xcTooMany : Addr} (gXTooMany : PySem.W.nsIn K mainGlobals "TooMany" = some (some (.ref xcTooMany))) (kXTooMany : PySem.W.keepIn K (.ref xcTooMany) = true) (bXTooMany : PySem.W.subIn K (.ref xcTooMany) (.type "BaseException") = some true) (tXTooMany : PySem.W.typeIn K (.ref xcTooMany) = some (.type "type")) (hXTooMany : PySem.W.hasDictIn K xcTooMany = true)
    (sXTooMany : PySem.W.subIn K (.ref xcNoSaying) (.ref xcTooMany) = some false)
    {xcAreAlike : Addr} (gXAreAlike : PySem.W.nsIn K mainGlobals "AreAlike" = some (some (.ref xcAreAlike))) (kXAreAlike : PySem.W.keepIn K (.ref xcAreAlike) = true) (bXAreAlike : PySem.W.subIn K (.ref xcAreAlike) (.type "BaseException") = some true) (tXAreAlike : PySem.W.typeIn K (.ref xcAreAlike) = some (.type "type")) (hXAreAlike : PySem.W.hasDictIn K xcAreAlike = true)
    (sXAreAlike : PySem.W.subIn K (.ref xcNoSaying) (.ref xcAreAlike) = some false)
    : ∃ fd : FuncData, (∀ (s : Shared) (v : Value), BindsTo s fd ⟨[v], []⟩ [("_law_script", v)]) ∧ ∀ base : Heap, K.In base → base.Ns mainGlobals mg → FnOk l.prog w K mg base CX0 7 fa fd ["_law_script"] (spLaw K) := by
  have e := hfa.symm.trans (PySem.W.mg_of X G a25)
  cases e
  have F1 := fun_mk (st := sis_whole) l1 c1 k1
  have F2 := fun_mk (st := sis_number) l2 c2 k2
  have F3 := fun_mk (st := sis_row) l3 c3 k3
  have F4 := fun_mk (st := sis_name) l4 c4 k4
  have F5 := fun_mk (st := snumbers_of) l5 c5 k5
  have F6 := fun_mk (st := scan_stand) l6 c6 k6
  have F7 := fun_mk (st := scheck) l7 c7 k7
  have F8 := fun_mk (st := s_law_pool) l8 c8 k8
  have F9 := fun_mk (st := s_law_draw) l9 c9 k9
  have F10 := fun_mk (st := s_law_name) l10 c10 k10
  have F11 := fun_mk (st := s_law_names) l11 c11 k11
  have F12 := fun_mk (st := s_law_row) l12 c12 k12
  have F13 := fun_mk (st := s_law_saying) l13 c13 k13
  have F14 := fun_mk (st := s_law_odd) l14 c14 k14
  have F15 := fun_mk (st := s_law_bent) l15 c15 k15
  have F16 := fun_mk (st := s_law_number) l16 c16 k16
  have F17 := fun_mk (st := s_law_tuple) l17 c17 k17
  have F18 := fun_mk (st := s_law_good_name) l18 c18 k18
  have F19 := fun_mk (st := s_law_same) l19 c19 k19
  have F20 := fun_mk (st := s_law_many_parts) l20 c20 k20
  have F21 := fun_mk (st := s_law_can_stand) l21 c21 k21
  have F22 := fun_mk (st := s_law_first_bad) l22 c22 k22
  have F23 := fun_mk (st := s_law_kinds) l23 c23 k23
  have F24 := fun_mk (st := s_law_by_base) l24 c24 k24
  have F25 := fun_mk (st := slaw) l25 c25 k25
  have b1 := F1.binds (ps := ["thing"]) fun _ _ _ _ _ _ us hl => match us, hl with | [_], _ => rfl
  have b2 := F2.binds (ps := ["thing", "low", "high"]) fun _ _ _ _ _ _ us hl => match us, hl with | [_, _, _], _ => rfl
  have b3 := F3.binds (ps := ["thing", "least", "most"]) fun _ _ _ _ _ _ us hl => match us, hl with | [_, _, _], _ => rfl
  have b4 := F4.binds (ps := ["thing"]) fun _ _ _ _ _ _ us hl => match us, hl with | [_], _ => rfl
  have b5 := F5.binds (ps := ["row"]) fun _ _ _ _ _ _ us hl => match us, hl with | [_], _ => rfl
  have b6 := F6.binds (ps := ["thing", "at"]) fun _ _ _ _ _ _ us hl => match us, hl with | [_, _], _ => rfl
  have b7 := F7.binds (ps := ["thing"]) fun _ _ _ _ _ _ us hl => match us, hl with | [_], _ => rfl
  have b8 := F8.binds (ps := ["_law_script"]) fun _ _ _ _ _ _ us hl => match us, hl with | [_], _ => rfl
  have b9 := F9.binds (ps := ["_law_pool_here", "_law_many"]) fun _ _ _ _ _ _ us hl => match us, hl with | [_, _], _ => rfl
  have b10 := F10.binds (ps := ["_law_pool_here", "_law_start", "_law_taken"]) fun _ _ _ _ _ _ us hl => match us, hl with | [_, _, _], _ => rfl
  have b11 := F11.binds (ps := ["_law_pool_here", "_law_many"]) fun _ _ _ _ _ _ us hl => match us, hl with | [_, _], _ => rfl
  have b12 := F12.binds (ps := ["_law_pool_here", "_law_names_here", "_law_at"]) fun _ _ _ _ _ _ us hl => match us, hl with | [_, _, _], _ => rfl
  have b13 := F13.binds (ps := ["_law_pool_here", "_law_names_here", "_law_most"]) fun _ _ _ _ _ _ us hl => match us, hl with | [_, _, _], _ => rfl
  have b14 := F14.binds (ps := ["_law_pool_here"]) fun _ _ _ _ _ _ us hl => match us, hl with | [_], _ => rfl
  have b15 := F15.binds (ps := ["_law_pool_here", "_law_thing", "_law_deep"]) fun _ _ _ _ _ _ us hl => match us, hl with | [_, _, _], _ => rfl
  have b16 := F16.binds (ps := ["_law_thing", "_law_low", "_law_high"]) fun _ _ _ _ _ _ us hl => match us, hl with | [_, _, _], _ => rfl
  have b17 := F17.binds (ps := ["_law_thing", "_law_least", "_law_most"]) fun _ _ _ _ _ _ us hl => match us, hl with | [_, _, _], _ => rfl
  have b18 := F18.binds (ps := ["_law_thing"]) fun _ _ _ _ _ _ us hl => match us, hl with | [_], _ => rfl
  have b19 := F19.binds (ps := ["_law_found", "_law_due"]) fun _ _ _ _ _ _ us hl => match us, hl with | [_, _], _ => rfl
  have b20 := F20.binds (ps := ["_law_word"]) fun _ _ _ _ _ _ us hl => match us, hl with | [_], _ => rfl
  have b21 := F21.binds (ps := ["_law_thing", "_law_at"]) fun _ _ _ _ _ _ us hl => match us, hl with | [_, _], _ => rfl
  have b22 := F22.binds (ps := ["_law_thing"]) fun _ _ _ _ _ _ us hl => match us, hl with | [_], _ => rfl
  have b23 := F23.binds (ps := ["_law_e"]) fun _ _ _ _ _ _ us hl => match us, hl with | [_], _ => rfl
  have b24 := F24.binds (ps := ["_law_thing"]) fun _ _ _ _ _ _ us hl => match us, hl with | [_], _ => rfl
  have T : Bi mg := ⟨PySem.W.mg_none_of X G z_ValueError, PySem.W.mg_none_of X G z_enumerate, PySem.W.mg_none_of X G z_range, PySem.W.mg_none_of X G z_tuple, PySem.W.mg_none_of X G z_isinstance, PySem.W.mg_none_of X G z_bool, PySem.W.mg_none_of X G z_int, PySem.W.mg_none_of X G z_str, PySem.W.mg_none_of X G z_all, PySem.W.mg_none_of X G z_len, PySem.W.mg_none_of X G z_min, PySem.W.mg_none_of X G z_list⟩
  let S : XIni K mg "NoSaying" := ⟨xcNoSaying, xcTreeError, fI, ⟨PySem.W.mg_of X G gXNoSaying, kXNoSaying, bXNoSaying, tXNoSaying, hXNoSaying⟩, ⟨PySem.W.mg_of X G gXTreeError, kXTreeError, bXTreeError, tXTreeError, hXTreeError⟩, ⟨e1, e2, bXNoSaying, hXNoSaying, e3, e4, e5, e6⟩, e7, e8, eT, ⟨⟨_, _, _, _, _, _, _, _, _, _, _, _, _, _, _, oI, bI⟩, jI1, bXNoSaying, tXNoSaying, kXNoSaying⟩, iI, jI2, jI3, jI4, jI5, jI6⟩
  have yTreeError : XSub K mg S.R "TreeError" true := ⟨xcTreeError, ⟨PySem.W.mg_of X G gXTreeError, kXTreeError, bXTreeError, tXTreeError, hXTreeError⟩, sXTreeError⟩
  have yNoMachine : XSub K mg S.R "NoMachine" false := ⟨xcNoMachine, ⟨PySem.W.mg_of X G gXNoMachine, kXNoMachine, bXNoMachine, tXNoMachine, hXNoMachine⟩, sXNoMachine⟩
  have yNoWishes : XSub K mg S.R "NoWishes" false := ⟨xcNoWishes, ⟨PySem.W.mg_of X G gXNoWishes, kXNoWishes, bXNoWishes, tXNoWishes, hXNoWishes⟩, sXNoWishes⟩
  have yNoProgram : XSub K mg S.R "NoProgram" false := ⟨xcNoProgram, ⟨PySem.W.mg_of X G gXNoProgram, kXNoProgram, bXNoProgram, tXNoProgram, hXNoProgram⟩, sXNoProgram⟩
  have yNoSaying : XSub K mg S.R "NoSaying" true := ⟨xcNoSaying, ⟨PySem.W.mg_of X G gXNoSaying, kXNoSaying, bXNoSaying, tXNoSaying, hXNoSaying⟩, sXNoSaying⟩
  have yNoText : XSub K mg S.R "NoText" false := ⟨xcNoText, ⟨PySem.W.mg_of X G gXNoText, kXNoText, bXNoText, tXNoText, hXNoText⟩, sXNoText⟩
  have yNoRun : XSub K mg S.R "NoRun" false := ⟨xcNoRun, ⟨PySem.W.mg_of X G gXNoRun, kXNoRun, bXNoRun, tXNoRun, hXNoRun⟩, sXNoRun⟩
  have yNoWay : XSub K mg S.R "NoWay" false := ⟨xcNoWay, ⟨PySem.W.mg_of X G gXNoWay, kXNoWay, bXNoWay, tXNoWay, hXNoWay⟩, sXNoWay⟩
  have yNoSheet : XSub K mg S.R "NoSheet" false := ⟨xcNoSheet, ⟨PySem.W.mg_of X G gXNoSheet, kXNoSheet, bXNoSheet, tXNoSheet, hXNoSheet⟩, sXNoSheet⟩
  have yNoPaper : XSub K mg S.R "NoPaper" false := ⟨xcNoPaper, ⟨PySem.W.mg_of X G gXNoPaper, kXNoPaper, bXNoPaper, tXNoPaper, hXNoPaper⟩, sXNoPaper⟩
  have yNoDeed : XSub K mg S.R "NoDeed" false := ⟨xcNoDeed, ⟨PySem.W.mg_of X G gXNoDeed, kXNoDeed, bXNoDeed, tXNoDeed, hXNoDeed⟩, sXNoDeed⟩
  have yTwice : XSub K mg S.R "Twice" false := ⟨xcTwice, ⟨PySem.W.mg_of X G gXTwice, kXTwice, bXTwice, tXTwice, hXTwice⟩, sXTwice⟩
  have yMissing : XSub K mg S.R "Missing" false := ⟨xcMissing, ⟨PySem.W.mg_of X G gXMissing, kXMissing, bXMissing, tXMissing, hXMissing⟩, sXMissing⟩
  have yNothing : XSub K mg S.R "Nothing" false := ⟨xcNothing, ⟨PySem.W.mg_of X G gXNothing, kXNothing, bXNothing, tXNothing, hXNothing⟩, sXNothing⟩
  have yFull : XSub K mg S.R "Full" false := ⟨xcFull, ⟨PySem.W.mg_of X G gXFull, kXFull, bXFull, tXFull, hXFull⟩, sXFull⟩
  have yBroken : XSub K mg S.R "Broken" false := ⟨xcBroken, ⟨PySem.W.mg_of X G gXBroken, kXBroken, bXBroken, tXBroken, hXBroken⟩, sXBroken⟩
  have yTooGreat : XSub K mg S.R "TooGreat" false := ⟨xcTooGreat, ⟨PySem.W.mg_of X G gXTooGreat, kXTooGreat, bXTooGreat, tXTooGreat, hXTooGreat⟩, sXTooGreat⟩
  have yTooMany : XSub K mg S.R "TooMany" false := ⟨xcTooMany, ⟨PySem.W.mg_of X G gXTooMany, kXTooMany, bXTooMany, tXTooMany, hXTooMany⟩, sXTooMany⟩
  have yAreAlike : XSub K mg S.R "AreAlike" false := ⟨xcAreAlike, ⟨PySem.W.mg_of X G gXAreAlike, kXAreAlike, bXAreAlike, tXAreAlike, hXAreAlike⟩, sXAreAlike⟩
  have W : Wd K mg := ⟨aWORDS, uLETTERS, PySem.W.mg_of X G gWORDS, rfl, fun _ => .inr ⟨_, _, _, lWORDS, rfl, rfl, sWORDS, vWORDS⟩, PySem.W.mg_of X G gLETTERS, rLETTERS⟩
  have W1 : Wg K w mg := ⟨⟨aWHOSE, aPARTS, aFORMS, esPARTS, nPARTS, esFORMS, nFORMS, uLONGEST, PySem.W.mg_of X G gWHOSE, rfl, fun _ => .inr ⟨_, _, _, lWHOSE, rfl, rfl, sWHOSE, vWHOSE⟩, PySem.W.mg_of X G gPARTS, rfl, ⟨lPARTS, iPARTS, wPARTS⟩, PySem.W.mg_of X G gFORMS, rfl, ⟨lFORMS, iFORMS, wFORMS⟩, PySem.W.mg_of X G gLONGEST, rLONGEST, List.forall_mem_cons.mpr ⟨⟨_, ePARTS0, rPARTS0⟩, List.forall_mem_cons.mpr ⟨⟨_, ePARTS1, rPARTS1⟩, List.forall_mem_cons.mpr ⟨⟨_, ePARTS2, rPARTS2⟩, List.forall_mem_cons.mpr ⟨⟨_, ePARTS3, rPARTS3⟩, List.forall_mem_cons.mpr ⟨⟨_, ePARTS4, rPARTS4⟩, List.forall_mem_cons.mpr ⟨⟨_, ePARTS5, rPARTS5⟩, List.forall_mem_nil _⟩⟩⟩⟩⟩⟩, List.forall_mem_cons.mpr ⟨⟨_, eFORMS0, rFORMS0⟩, List.forall_mem_cons.mpr ⟨⟨_, eFORMS1, rFORMS1⟩, List.forall_mem_cons.mpr ⟨⟨_, eFORMS2, rFORMS2⟩, List.forall_mem_cons.mpr ⟨⟨_, eFORMS3, rFORMS3⟩, List.forall_mem_cons.mpr ⟨⟨_, eFORMS4, rFORMS4⟩, List.forall_mem_nil _⟩⟩⟩⟩⟩⟩, fun x h => ns_none lPARTS mPARTS (lookup_none h), fun x h => ns_none lFORMS mFORMS (lookup_none h)⟩
  refine ⟨PySem.W.fnOf "law" "law" (defArgs slaw) (defBody slaw) (defScope slaw) .none kV25 dc25 pm25 an25 cd25 ct25, fun s v => .of_eq rfl, fun base _ _ => ?_⟩
  have FI := fun_mk (st := sNoSaying___init__) lI cI kI
  have cini : CalI l.prog w K mg base S.fI ["self", "row"] (spIni S.R) := ⟨_, ok_ini FI T S, FI.binds (ps := ["self", "row"]) fun _ _ _ _ _ _ us hl => match us, hl with | [_, _], _ => rfl⟩
  have cis_whole : Cal l.prog w K mg base 1 "is_whole" ["thing"] (spWholeT K) := ⟨f1, _, ok_wholeT F1 T, PySem.W.mg_of X G a1, F1.kp, b1⟩
  have cis_number : Cal l.prog w K mg base 2 "is_number" ["thing", "low", "high"] (spNumT K) := ⟨f2, _, ok_numT F2 T cis_whole, PySem.W.mg_of X G a2, F2.kp, b2⟩
  have cis_row : Cal l.prog w K mg base 1 "is_row" ["thing", "least", "most"] (spRowT K) := ⟨f3, _, ok_rowT F3 T, PySem.W.mg_of X G a3, F3.kp, b3⟩
  have cis_name : Cal l.prog w K mg base 1 "is_name" ["thing"] (spNameT K) := ⟨f4, _, ok_nameT F4 T W, PySem.W.mg_of X G a4, F4.kp, b4⟩
  have cnumbers_of : Cal l.prog w K mg base 1 "numbers_of" ["row"] (spNumsT K) := ⟨f5, _, ok_numsT F5 W1, PySem.W.mg_of X G a5, F5.kp, b5⟩
  have ccan_stand : Cal l.prog w K mg base 3 "can_stand" ["thing", "at"] (spStandT K) := ⟨f6, _, ok_standT F6 T W1 cis_row cis_name cis_number cnumbers_of, PySem.W.mg_of X G a6, F6.kp, b6⟩
  have ccheck : CalX l.prog w K mg base 4 "check" ["thing"] (spCkS K S.R) := ⟨f7, _, ok_ckS F7 T W1 S cini cis_row ccan_stand, PySem.W.mg_of X G a7, F7.kp, b7⟩
  have c_law_pool : Cal l.prog w K mg base 1 "_law_pool" ["_law_script"] (spPool K) := ⟨f8, _, ok_pool F8 , PySem.W.mg_of X G a8, F8.kp, b8⟩
  have c_law_draw : Cal l.prog w K mg base 1 "_law_draw" ["_law_pool_here", "_law_many"] spDraw := ⟨f9, _, ok_draw F9 T, PySem.W.mg_of X G a9, F9.kp, b9⟩
  have c_law_name : Cal l.prog w K mg base 2 "_law_name" ["_law_pool_here", "_law_start", "_law_taken"] spLName := ⟨f10, _, ok_lname F10 T c_law_draw, PySem.W.mg_of X G a10, F10.kp, b10⟩
  have c_law_names : Cal l.prog w K mg base 3 "_law_names" ["_law_pool_here", "_law_many"] spLNames := ⟨f11, _, ok_lnames F11 T c_law_draw c_law_name, PySem.W.mg_of X G a11, F11.kp, b11⟩
  have c_law_row : Cal l.prog w K mg base 2 "_law_row" ["_law_pool_here", "_law_names_here", "_law_at"] (spLRow K) := ⟨f12, _, ok_lrow F12 T c_law_draw, PySem.W.mg_of X G a12, F12.kp, b12⟩
  have c_law_saying : Cal l.prog w K mg base 3 "_law_saying" ["_law_pool_here", "_law_names_here", "_law_most"] (spSaying K) := ⟨f13, _, ok_saying F13 T c_law_draw c_law_row, PySem.W.mg_of X G a13, F13.kp, b13⟩
  have c_law_odd : Cal l.prog w K mg base 2 "_law_odd" ["_law_pool_here"] (spOdd K) := ⟨f14, _, ok_odd F14 c_law_draw, PySem.W.mg_of X G a14, F14.kp, b14⟩
  have c_law_bent : Cal l.prog w K mg base 6 "_law_bent" ["_law_pool_here", "_law_thing", "_law_deep"] (spB K 4) := ⟨f15, _, ok_bent F15 T c_law_draw c_law_odd (PySem.W.mg_of X G a15) F15.kp b15 4, PySem.W.mg_of X G a15, F15.kp, b15⟩
  have c_law_number : Cal l.prog w K mg base 1 "_law_number" ["_law_thing", "_law_low", "_law_high"] (spNumT K) := ⟨f16, _, ok_lnumT F16 T, PySem.W.mg_of X G a16, F16.kp, b16⟩
  have c_law_tuple : Cal l.prog w K mg base 1 "_law_tuple" ["_law_thing", "_law_least", "_law_most"] (spRowT K) := ⟨f17, _, ok_ltupT F17 T, PySem.W.mg_of X G a17, F17.kp, b17⟩
  have c_law_good_name : Cal l.prog w K mg base 1 "_law_good_name" ["_law_thing"] (spNameT K) := ⟨f18, _, ok_goodT F18 T, PySem.W.mg_of X G a18, F18.kp, b18⟩
  have c_law_same : Cal l.prog w K mg base 2 "_law_same" ["_law_found", "_law_due"] spSame := ⟨f19, _, ok_same F19 T (PySem.W.mg_of X G a19) F19.kp b19, PySem.W.mg_of X G a19, F19.kp, b19⟩
  have c_law_many_parts : Cal l.prog w K mg base 1 "_law_many_parts" ["_law_word"] spParts := ⟨f20, _, ok_parts F20 , PySem.W.mg_of X G a20, F20.kp, b20⟩
  have c_law_can_stand : Cal l.prog w K mg base 2 "_law_can_stand" ["_law_thing", "_law_at"] (spStandT K) := ⟨f21, _, ok_lstand F21 T c_law_tuple c_law_good_name c_law_number c_law_many_parts, PySem.W.mg_of X G a21, F21.kp, b21⟩
  have c_law_first_bad : Cal l.prog w K mg base 3 "_law_first_bad" ["_law_thing"] (spFirst K) := ⟨f22, _, ok_first F22 T c_law_tuple c_law_can_stand, PySem.W.mg_of X G a22, F22.kp, b22⟩
  have c_law_kinds : XI.CalE l.prog w K mg base 1 "_law_kinds" ["_law_e"] S.R (spKinds 3) := ⟨f23, _, ok_kinds F23 T S yTreeError yNoMachine yNoWishes yNoProgram yNoSaying yNoText yNoRun yNoWay yNoSheet yNoPaper yNoDeed yTwice yMissing yNothing yFull yBroken yTooGreat yTooMany yAreAlike, PySem.W.mg_of X G a23, F23.kp, b23⟩
  have c_law_by_base : Cal l.prog w K mg base 5 "_law_by_base" ["_law_thing"] (spByBase K) := ⟨f24, _, ok_bybase F24 T S ccheck c_law_kinds, PySem.W.mg_of X G a24, F24.kp, b24⟩
  exact ok_law F25 T S c_law_pool c_law_draw c_law_names c_law_saying c_law_bent c_law_first_bad ccheck c_law_same c_law_by_base
end Fx
open PySem PySem.W PyProof.Rows
set_option maxHeartbeats 0 in
theorem PySem.Challenge.cw_fairtrees_k13_no_saying_and_its_row_holds : PySem.Challenge.rw_fairtrees_k13_no_saying_and_its_row.Holds := by
  w_on; o_law; k_head; (case hw => w_witness2)
  k_fill
  refine L2.walk_of (l := PySem.Challenge.rw_fairtrees_k13_no_saying_and_its_row) (n := 63) (k := 7) (x := "_law_script") (CX := fun _ => L2.CX0) (sp := fun w => Fx.spLaw _) rfl (by decide) rfl ⟨rfl, by decide, by decide⟩ (fun w h Y => PySem.W.kIn_of Y) ?F (fun _ _ a ns hl _ hS => ⟨a, ns, rfl, hS, hl, fun _ => rfl⟩) (fun _ _ _ _ _ h => h)
  case F =>
    intro w mg fa h KX G hmg
    refine' Fx.all_mk KX G hmg ?a1 ?l1 ?c1 ?k1 ?a2 ?l2 ?c2 ?k2 ?a3 ?l3 ?c3 ?k3 ?a4 ?l4 ?c4 ?k4 ?a5 ?l5 ?c5 ?k5 ?a6 ?l6 ?c6 ?k6 ?a7 ?l7 ?c7 ?k7 ?a8 ?l8 ?c8 ?k8 ?a9 ?l9 ?c9 ?k9 ?a10 ?l10 ?c10 ?k10 ?a11 ?l11 ?c11 ?k11 ?a12 ?l12 ?c12 ?k12 ?a13 ?l13 ?c13 ?k13 ?a14 ?l14 ?c14 ?k14 ?a15 ?l15 ?c15 ?k15 ?a16 ?l16 ?c16 ?k16 ?a17 ?l17 ?c17 ?k17 ?a18 ?l18 ?c18 ?k18 ?a19 ?l19 ?c19 ?k19 ?a20 ?l20 ?c20 ?k20 ?a21 ?l21 ?c21 ?k21 ?a22 ?l22 ?c22 ?k22 ?a23 ?l23 ?c23 ?k23 ?a24 ?l24 ?c24 ?k24 ?a25 ?l25 ?c25 ?k25 ?z_ValueError ?z_enumerate ?z_range ?z_tuple ?z_isinstance ?z_bool ?z_int ?z_str ?z_all ?z_len ?z_min ?z_list ?gWORDS ?lWORDS ?sWORDS ?vWORDS ?gWHOSE ?lWHOSE ?sWHOSE ?vWHOSE ?gLETTERS ?rLETTERS ?gLONGEST ?rLONGEST ?gPARTS ?lPARTS ?iPARTS ?wPARTS ?mPARTS ?ePARTS0 ?rPARTS0 ?ePARTS1 ?rPARTS1 ?ePARTS2 ?rPARTS2 ?ePARTS3 ?rPARTS3 ?ePARTS4 ?rPARTS4 ?ePARTS5 ?rPARTS5 ?gFORMS ?lFORMS ?iFORMS ?wFORMS ?mFORMS ?eFORMS0 ?rFORMS0 ?eFORMS1 ?rFORMS1 ?eFORMS2 ?rFORMS2 ?eFORMS3 ?rFORMS3 ?eFORMS4 ?rFORMS4 ?gXNoSaying ?kXNoSaying ?bXNoSaying ?tXNoSaying ?hXNoSaying ?gXTreeError ?kXTreeError ?bXTreeError ?tXTreeError ?hXTreeError ?iI ?lI ?cI ?kI ?oI ?bI ?jI1 ?jI2 ?jI3 ?jI4 ?jI5 ?jI6 ?e1 ?e2 ?e3 ?e4 ?e5 ?e6 ?e7 ?e8 ?eT ?sXTreeError ?gXNoMachine ?kXNoMachine ?bXNoMachine ?tXNoMachine ?hXNoMachine ?sXNoMachine ?gXNoWishes ?kXNoWishes ?bXNoWishes ?tXNoWishes ?hXNoWishes ?sXNoWishes ?gXNoProgram ?kXNoProgram ?bXNoProgram ?tXNoProgram ?hXNoProgram ?sXNoProgram ?sXNoSaying ?gXNoText ?kXNoText ?bXNoText ?tXNoText ?hXNoText ?sXNoText ?gXNoRun ?kXNoRun ?bXNoRun ?tXNoRun ?hXNoRun ?sXNoRun ?gXNoWay ?kXNoWay ?bXNoWay ?tXNoWay ?hXNoWay ?sXNoWay ?gXNoSheet ?kXNoSheet ?bXNoSheet ?tXNoSheet ?hXNoSheet ?sXNoSheet ?gXNoPaper ?kXNoPaper ?bXNoPaper ?tXNoPaper ?hXNoPaper ?sXNoPaper ?gXNoDeed ?kXNoDeed ?bXNoDeed ?tXNoDeed ?hXNoDeed ?sXNoDeed ?gXTwice ?kXTwice ?bXTwice ?tXTwice ?hXTwice ?sXTwice ?gXMissing ?kXMissing ?bXMissing ?tXMissing ?hXMissing ?sXMissing ?gXNothing ?kXNothing ?bXNothing ?tXNothing ?hXNothing ?sXNothing ?gXFull ?kXFull ?bXFull ?tXFull ?hXFull ?sXFull ?gXBroken ?kXBroken ?bXBroken ?tXBroken ?hXBroken ?sXBroken ?gXTooGreat ?kXTooGreat ?bXTooGreat ?tXTooGreat ?hXTooGreat ?sXTooGreat ?gXTooMany ?kXTooMany ?bXTooMany ?tXTooMany ?hXTooMany ?sXTooMany ?gXAreAlike ?kXAreAlike ?bXAreAlike ?tXAreAlike ?hXAreAlike ?sXAreAlike
    (case a1 => k_is); (case l1 => k_is); (case c1 => k_is); (case k1 => k_is); (case a2 => k_is); (case l2 => k_is); (case c2 => k_is); (case k2 => k_is); (case a3 => k_is); (case l3 => k_is); (case c3 => k_is); (case k3 => k_is); (case a4 => k_is); (case l4 => k_is); (case c4 => k_is); (case k4 => k_is); (case a5 => k_is); (case l5 => k_is); (case c5 => k_is); (case k5 => k_is); (case a6 => k_is); (case l6 => k_is); (case c6 => k_is); (case k6 => k_is); (case a7 => k_is); (case l7 => k_is); (case c7 => k_is); (case k7 => k_is); (case a8 => k_is); (case l8 => k_is); (case c8 => k_is); (case k8 => k_is); (case a9 => k_is); (case l9 => k_is); (case c9 => k_is); (case k9 => k_is); (case a10 => k_is); (case l10 => k_is); (case c10 => k_is); (case k10 => k_is); (case a11 => k_is); (case l11 => k_is); (case c11 => k_is); (case k11 => k_is); (case a12 => k_is); (case l12 => k_is); (case c12 => k_is); (case k12 => k_is); (case a13 => k_is); (case l13 => k_is); (case c13 => k_is); (case k13 => k_is); (case a14 => k_is); (case l14 => k_is); (case c14 => k_is); (case k14 => k_is); (case a15 => k_is); (case l15 => k_is); (case c15 => k_is); (case k15 => k_is); (case a16 => k_is); (case l16 => k_is); (case c16 => k_is); (case k16 => k_is); (case a17 => k_is); (case l17 => k_is); (case c17 => k_is); (case k17 => k_is); (case a18 => k_is); (case l18 => k_is); (case c18 => k_is); (case k18 => k_is); (case a19 => k_is); (case l19 => k_is); (case c19 => k_is); (case k19 => k_is); (case a20 => k_is); (case l20 => k_is); (case c20 => k_is); (case k20 => k_is); (case a21 => k_is); (case l21 => k_is); (case c21 => k_is); (case k21 => k_is); (case a22 => k_is); (case l22 => k_is); (case c22 => k_is); (case k22 => k_is); (case a23 => k_is); (case l23 => k_is); (case c23 => k_is); (case k23 => k_is); (case a24 => k_is); (case l24 => k_is); (case c24 => k_is); (case k24 => k_is); (case a25 => k_is); (case l25 => k_is); (case c25 => k_is); (case k25 => k_is); (case z_ValueError => k_is); (case z_enumerate => k_is); (case z_range => k_is); (case z_tuple => k_is); (case z_isinstance => k_is); (case z_bool => k_is); (case z_int => k_is); (case z_str => k_is); (case z_all => k_is); (case z_len => k_is); (case z_min => k_is); (case z_list => k_is); (case gWORDS => k_is); (case lWORDS => k_is); (case gWHOSE => k_is); (case lWHOSE => k_is); (case gLETTERS => k_is); (case gLONGEST => k_is); (case gPARTS => k_is); (case lPARTS => k_is); (case ePARTS0 => k_is); (case ePARTS1 => k_is); (case ePARTS2 => k_is); (case ePARTS3 => k_is); (case ePARTS4 => k_is); (case ePARTS5 => k_is); (case gFORMS => k_is); (case lFORMS => k_is); (case eFORMS0 => k_is); (case eFORMS1 => k_is); (case eFORMS2 => k_is); (case eFORMS3 => k_is); (case eFORMS4 => k_is); (case gXNoSaying => k_is); (case kXNoSaying => k_is); (case bXNoSaying => k_is); (case tXNoSaying => k_is); (case hXNoSaying => k_is); (case gXTreeError => k_is); (case kXTreeError => k_is); (case bXTreeError => k_is); (case tXTreeError => k_is); (case hXTreeError => k_is); (case iI => k_is); (case lI => k_is); (case cI => k_is); (case kI => k_is); (case oI => k_is); (case gXNoMachine => k_is); (case kXNoMachine => k_is); (case bXNoMachine => k_is); (case tXNoMachine => k_is); (case hXNoMachine => k_is); (case gXNoWishes => k_is); (case kXNoWishes => k_is); (case bXNoWishes => k_is); (case tXNoWishes => k_is); (case hXNoWishes => k_is); (case gXNoProgram => k_is); (case kXNoProgram => k_is); (case bXNoProgram => k_is); (case tXNoProgram => k_is); (case hXNoProgram => k_is); (case gXNoText => k_is); (case kXNoText => k_is); (case bXNoText => k_is); (case tXNoText => k_is); (case hXNoText => k_is); (case gXNoRun => k_is); (case kXNoRun => k_is); (case bXNoRun => k_is); (case tXNoRun => k_is); (case hXNoRun => k_is); (case gXNoWay => k_is); (case kXNoWay => k_is); (case bXNoWay => k_is); (case tXNoWay => k_is); (case hXNoWay => k_is); (case gXNoSheet => k_is); (case kXNoSheet => k_is); (case bXNoSheet => k_is); (case tXNoSheet => k_is); (case hXNoSheet => k_is); (case gXNoPaper => k_is); (case kXNoPaper => k_is); (case bXNoPaper => k_is); (case tXNoPaper => k_is); (case hXNoPaper => k_is); (case gXNoDeed => k_is); (case kXNoDeed => k_is); (case bXNoDeed => k_is); (case tXNoDeed => k_is); (case hXNoDeed => k_is); (case gXTwice => k_is); (case kXTwice => k_is); (case bXTwice => k_is); (case tXTwice => k_is); (case hXTwice => k_is); (case gXMissing => k_is); (case kXMissing => k_is); (case bXMissing => k_is); (case tXMissing => k_is); (case hXMissing => k_is); (case gXNothing => k_is); (case kXNothing => k_is); (case bXNothing => k_is); (case tXNothing => k_is); (case hXNothing => k_is); (case gXFull => k_is); (case kXFull => k_is); (case bXFull => k_is); (case tXFull => k_is); (case hXFull => k_is); (case gXBroken => k_is); (case kXBroken => k_is); (case bXBroken => k_is); (case tXBroken => k_is); (case hXBroken => k_is); (case gXTooGreat => k_is); (case kXTooGreat => k_is); (case bXTooGreat => k_is); (case tXTooGreat => k_is); (case hXTooGreat => k_is); (case gXTooMany => k_is); (case kXTooMany => k_is); (case bXTooMany => k_is); (case tXTooMany => k_is); (case hXTooMany => k_is); (case gXAreAlike => k_is); (case kXAreAlike => k_is); (case bXAreAlike => k_is); (case tXAreAlike => k_is); (case hXAreAlike => k_is)
    (case sWORDS => decide)
    (case vWORDS => repeat (first | exact .nil | refine .cons ⟨_, rfl⟩ ?_))
    (case sWHOSE => decide)
    (case vWHOSE => repeat (first | exact .nil | refine .cons ⟨_, rfl⟩ ?_))
    (case rLETTERS => exact ⟨_, rfl⟩)
    (case rLONGEST => exact ⟨_, rfl⟩)
    (case iPARTS => repeat (first | exact trivial | refine ⟨⟨_, _, rfl, rfl⟩, ?_⟩))
    (case wPARTS => decide)
    (case mPARTS => repeat (first | exact List.forall_mem_nil _ | refine List.forall_mem_cons.mpr ⟨⟨_, _, rfl, by decide +kernel⟩, ?_⟩))
    (case rPARTS0 => exact ⟨_, rfl⟩)
    (case rPARTS1 => exact ⟨_, rfl⟩)
    (case rPARTS2 => exact ⟨_, rfl⟩)
    (case rPARTS3 => exact ⟨_, rfl⟩)
    (case rPARTS4 => exact ⟨_, rfl⟩)
    (case rPARTS5 => exact ⟨_, rfl⟩)
    (case iFORMS => repeat (first | exact trivial | refine ⟨⟨_, _, rfl, rfl⟩, ?_⟩))
    (case wFORMS => decide)
    (case mFORMS => repeat (first | exact List.forall_mem_nil _ | refine List.forall_mem_cons.mpr ⟨⟨_, _, rfl, by decide +kernel⟩, ?_⟩))
    (case rFORMS0 => exact ⟨_, rfl⟩)
    (case rFORMS1 => exact ⟨_, rfl⟩)
    (case rFORMS2 => exact ⟨_, rfl⟩)
    (case rFORMS3 => exact ⟨_, rfl⟩)
    (case rFORMS4 => exact ⟨_, rfl⟩)
    (case bI => first | rfl | decide +kernel)
    (case jI1 => first | rfl | k_is)
    (case jI2 => first | rfl | k_is)
    (case jI3 => first | rfl | k_is)
    (case jI4 => first | rfl | k_is)
    (case jI5 => first | rfl | k_is)
    (case jI6 => first | rfl | k_is)
    (case e1 => first | rfl | k_is)
    (case e2 => first | rfl | k_is)
    (case e3 => first | rfl | k_is)
    (case e4 => first | rfl | k_is)
    (case e5 => first | rfl | k_is)
    (case e6 => first | rfl | k_is)
    (case e7 => first | rfl | k_is)
    (case e8 => first | rfl | k_is)
    (case eT => first | rfl | k_is)
    (case sXTreeError => first | rfl | k_is)
    (case sXNoMachine => first | rfl | k_is)
    (case sXNoWishes => first | rfl | k_is)
    (case sXNoProgram => first | rfl | k_is)
    (case sXNoSaying => first | rfl | k_is)
    (case sXNoText => first | rfl | k_is)
    (case sXNoRun => first | rfl | k_is)
    (case sXNoWay => first | rfl | k_is)
    (case sXNoSheet => first | rfl | k_is)
    (case sXNoPaper => first | rfl | k_is)
    (case sXNoDeed => first | rfl | k_is)
    (case sXTwice => first | rfl | k_is)
    (case sXMissing => first | rfl | k_is)
    (case sXNothing => first | rfl | k_is)
    (case sXFull => first | rfl | k_is)
    (case sXBroken => first | rfl | k_is)
    (case sXTooGreat => first | rfl | k_is)
    (case sXTooMany => first | rfl | k_is)
    (case sXAreAlike => first | rfl | k_is)
