import PyProof.Rows.All
import Wide.All
import OpenK.AllK
import Wide.FinOn
import HandS.ForMost
import HandS.TupAny
import HandS.TupMul
import HandS.IsInst
import HandS.TupLe
import HandS.DictComp
import HandS.Conv
import HandS.Walk
import HandS.Evl
import KE.GoesMore
import PyProof.Draws
import PyProof.CollectIter
import PyProof.WalksMore
import PyProof.TupleOfSeq
import PyProof.DictMoreH
import HandS.DictTup
import HandS.TupLen
import HandS.Replace
import HandS.ReplaceLit
import HandS.Zip
import HandS.DictComp
import KE.KxIndex
import KE.KDictList
import HandS.Defaults
import HandS.MakeKwOnly
import HandS.Deep
import HandS.WordsExc
import HandS.ExcOwn
import HandS.TryOnly
import HandS.ExcIs
import HandS.SetKeys
import HandS.SetBool
import HandS.Style
import HandS.Text
import PySem.Challenge.RW_fairtrees_k19_no_text_of_a_machine
set_option Elab.async false
set_option linter.all false
set_option maxRecDepth 100000
set_option maxHeartbeats 4000000
namespace Fx
open PySem PySem.Spec PyProof.Rows L2
def topS (i : Nat) : Stmt := PySem.Challenge.pw_fairtrees_k19_no_text_of_a_machine.main.body.getD i (.Pass ⟨0, 0, 0, 0⟩)

/-! ### heaps, data, the pool of draws -/
/-- a def of the text as its callers see it -/
structure Cal (P : Program) (w : World) (K : PySem.W.Frag) (mg : Str → Option Value) (base : Heap) (k : Nat) (x : Str) (ps : List Str) (sp : Sp) where
  f : Addr
  fd : FuncData
  G : FnOk P w K mg base CX0 k f fd ps sp
  g : mg x = some (.ref f)
  kp : PySem.W.keepIn K (.ref f) = true
  b : Binds K fd ps []
theorem same_upd {H : Hp} {p : Addr} {o : HO} (h : H p = none) : Same H (upd H p o) := fun b x e => by
  rw [upd_ne (ne_of_none e h)]
  exact e
/-- an object that H does not know may change -/
theorem smut {H H' : Hp} {p : Addr} {o : HO} (e : Same H H') (h : H p = none) : Same H (upd H' p o) := fun a u ha => by
  rw [upd_ne (ne_of_none ha h)]
  exact e a u ha
/-- all tuples stand -/
def Imm (H H' : Hp) : Prop := ∀ a xs, Rd H a (.tup xs) → Rd H' a (.tup xs)
theorem Imm.refl (H : Hp) : Imm H H := fun _ _ h => h
theorem Imm.trans {H H1 H2 : Hp} (a : Imm H H1) (b : Imm H1 H2) : Imm H H2 := fun x xs h => b x xs (a x xs h)
theorem simm {H H' : Hp} (e : Same H H') : Imm H H' := fun a xs h => by
  rcases h with h | ⟨o, h⟩
  · exact .inl (e _ _ h)
  · exact .inr ⟨o, e _ _ h⟩
theorem Imm.sq {K : PySem.W.Frag} {H H' : Hp} {a : Addr} {xs : List V} (e : Imm H H') (h : SqT K H a xs) : SqT K H' a xs := by
  rcases h with h | h
  · exact .inl (e _ _ h)
  · exact .inr h
theorem ssqt {K : PySem.W.Frag} {H H' : Hp} {a : Addr} {xs : List V} (e : Same H H') (h : SqT K H a xs) : SqT K H' a xs := (simm e).sq h
/-- a list that changes is no tuple -/
theorem Imm.list {H : Hp} {p : Addr} {xs : List V} {o : HO} (h : H p = some (.lst xs)) : Imm H (upd H p o) := fun a ys e => by
  rcases e with e | ⟨u, e⟩
  · exact .inl (by rw [upd_ne (ne_of h e (by intro q; cases q)).symm]; exact e)
  · exact .inr ⟨u, by rw [upd_ne (ne_of h e (by intro q; cases q)).symm]; exact e⟩
theorem Imm.new {H : Hp} {p : Addr} {o : HO} (h : H p = none) : Imm H (upd H p o) := simm (same_upd h)
/-- a list of addresses, each a tuple of such things -/
inductive Each {α : Type} (R : Addr → α → Prop) : List Addr → List α → Prop where
  | nil : Each R [] []
  | cons {a : Addr} {as : List Addr} {x : α} {xs : List α} (h : R a x) (t : Each R as xs) : Each R (a :: as) (x :: xs)
theorem Each.imp {α : Type} {R S : Addr → α → Prop} (f : ∀ a x, R a x → S a x) : ∀ {as : List Addr} {xs : List α}, Each R as xs → Each S as xs
  | _, _, .nil => .nil
  | _, _, .cons h t => .cons (f _ _ h) (t.imp f)
theorem Each.len {α : Type} {R : Addr → α → Prop} : ∀ {as : List Addr} {xs : List α}, Each R as xs → as.length = xs.length
  | _, _, .nil => rfl
  | _, _, .cons _ t => by rw [List.length_cons, List.length_cons, t.len]
theorem Each.get {α : Type} {R : Addr → α → Prop} : ∀ {as : List Addr} {xs : List α} {i : Nat} {a : Addr}, Each R as xs → as[i]? = some a → ∃ x, xs[i]? = some x ∧ R a x
  | _, _, _, _, .nil, h => by simp at h
  | _, _, 0, _, .cons (x := x) r _, h => by
    have e := Option.some.inj h
    subst e
    exact ⟨x, rfl, r⟩
  | _, _, i + 1, _, .cons _ t, h => by
    obtain ⟨x, h1, h2⟩ := t.get (i := i) (by simpa using h)
    exact ⟨x, by simpa using h1, h2⟩
theorem Each.getx {α : Type} {R : Addr → α → Prop} : ∀ {as : List Addr} {xs : List α} {i : Nat} {x : α}, Each R as xs → xs[i]? = some x → ∃ a, as[i]? = some a ∧ R a x
  | _, _, _, _, .nil, h => by simp at h
  | _, _, 0, _, .cons (a := a) r _, h => by
    have e := Option.some.inj h
    subst e
    exact ⟨a, rfl, r⟩
  | _, _, i + 1, _, .cons _ t, h => by
    obtain ⟨x, h1, h2⟩ := t.getx (i := i) (by simpa using h)
    exact ⟨x, by simpa using h1, h2⟩
theorem Each.snoc {α : Type} {R : Addr → α → Prop} {a : Addr} {x : α} (r : R a x) : ∀ {as : List Addr} {xs : List α}, Each R as xs → Each R (as ++ [a]) (xs ++ [x])
  | _, _, .nil => .cons r .nil
  | _, _, .cons h t => .cons h (t.snoc r)
theorem map_get {α : Type} {f : α → V} {xs : List α} {i : Nat} {v : V} (h : (xs.map f)[i]? = some v) : ∃ x, xs[i]? = some x ∧ v = f x := by
  rw [List.getElem?_map] at h
  cases e : xs[i]? with
  | none =>
    rw [e] at h
    cases h
  | some x =>
    rw [e] at h
    exact ⟨x, rfl, (Option.some.inj h).symm⟩
theorem get_map {α : Type} {f : α → V} {xs : List α} {i : Nat} {x : α} (h : xs[i]? = some x) : (xs.map f)[i]? = some (f x) := by
  rw [List.getElem?_map, h]
  rfl
theorem notdec {p : Prop} [Decidable p] (h : (!decide p) = true) : ¬ p := by simpa using h
theorem dec_of {p : Prop} [Decidable p] (h : ¬ ((!decide p) = true)) : p := by simpa using h
theorem ixN_nat {n j : Nat} (hj : j < n) : ixN n (j : Int) = some j := by
  unfold ixN
  rw [if_pos (by omega), if_pos (by omega)]
  simp
theorem ixN0 {n : Nat} (h : 0 < n) : ixN n 0 = some 0 := ixN_nat (j := 0) h
theorem six0 {n : Nat} (h : 0 < n) : seqIndex? 0 n = some 0 := by
  unfold seqIndex?
  simp
  omega
theorem szOk {n : Nat} (h : n ≤ 100000) : n ≤ sizeLine := Nat.le_trans h (by decide)
theorem szLt {n : Nat} (h : n < 100000) : n < sizeLine := Nat.lt_of_lt_of_le h (by decide)
theorem ty_sqt {K : PySem.W.Frag} {H : Hp} {a : Addr} {xs : List V} (h : SqT K H a xs) : TyX K H (.ref a) (.type "tuple") := by
  rcases h with (h | ⟨o, h⟩) | ⟨o, its, n, hk, hc, _⟩
  · exact .base (.tup h)
  · exact .fTuple h
  · exact .kTuple hk hc
/-- the pool's addresses: itself, its great numbers, its small ones -/
structure PA where
  p : Addr
  g : Addr
  s : Addr
def Off (a : PA) (b : Addr) : Prop := b ≠ a.p ∧ b ≠ a.g ∧ b ≠ a.s
structure Pool (H : Hp) (a : PA) (c : Nat) : Prop where
  ex : ∃ (gs ss : List Int) (st ct : Int), H a.p = some (.lst [.ref a.g, .ref a.s, .int st, .int ct]) ∧ H a.g = some (.lst (gs.map V.int)) ∧ H a.s = some (.lst (ss.map V.int)) ∧
    gs.length ≤ 63 ∧ ss.length ≤ 63 ∧ 0 ≤ st ∧ st < 2147483647 ∧ 0 ≤ ct ∧ ct ≤ c ∧ a.s ≠ a.g
/-- all but the pool stands -/
def Kp (a : PA) (H H' : Hp) : Prop := ∀ b o, H b = some o → Off a b → H' b = some o
theorem Kp.refl {a : PA} (H : Hp) : Kp a H H := fun _ _ h _ => h
theorem Kp.trans {a : PA} {H H1 H2 : Hp} (x : Kp a H H1) (y : Kp a H1 H2) : Kp a H H2 := fun c o h n => y c o (x c o h n) n
theorem skp {a : PA} {H H' : Hp} (s : Same H H') : Kp a H H' := fun b o h _ => s b o h
theorem Kp.mut {a : PA} {H H' : Hp} {q : Addr} {o : HO} (e : Kp a H H') (h : H q = none) : Kp a H (upd H' q o) := fun b u hb n => by
  rw [upd_ne (ne_of_none hb h)]
  exact e b u hb n
theorem Kp.free {a : PA} {H H' : Hp} {l : Addr} (k : Kp a H H') (h : H' l = none) (n : Off a l) : H l = none := by
  cases e : H l with
  | none => rfl
  | some o =>
    rw [k l o e n] at h
    cases h
theorem Pool.mono {H : Hp} {a : PA} {c c' : Nat} (P : Pool H a c) (h : c ≤ c') : Pool H a c' := by
  obtain ⟨gs, ss, st, ct, a1, a2, a3, a4, a5, a6, a7, a8, a9, a10⟩ := P.ex
  exact ⟨gs, ss, st, ct, a1, a2, a3, a4, a5, a6, a7, a8, by omega, a10⟩
theorem Pool.same {H H' : Hp} {a : PA} {c : Nat} (P : Pool H a c) (e : Same H H') : Pool H' a c := by
  obtain ⟨gs, ss, st, ct, a1, a2, a3, a4, a5, a6, a7, a8, a9, a10⟩ := P.ex
  exact ⟨gs, ss, st, ct, e _ _ a1, e _ _ a2, e _ _ a3, a4, a5, a6, a7, a8, a9, a10⟩
theorem Pool.off {H : Hp} {a : PA} {b : Addr} {c : Nat} (P : Pool H a c) (h : H b = none) : Off a b := by
  obtain ⟨gs, ss, st, ct, a1, a2, a3, a4, a5, a6, a7, a8, a9, a10⟩ := P.ex
  exact ⟨(ne_of_none a1 h).symm, (ne_of_none a2 h).symm, (ne_of_none a3 h).symm⟩
/-- what is no list is none of the pool's -/
theorem Pool.offo {H : Hp} {a : PA} {b : Addr} {c : Nat} {o : HO} (P : Pool H a c) (h : H b = some o) (n : ∀ xs, o ≠ .lst xs) : Off a b := by
  obtain ⟨gs, ss, st, ct, a1, a2, a3, a4, a5, a6, a7, a8, a9, a10⟩ := P.ex
  exact ⟨(ne_of a1 h (n _).symm).symm, (ne_of a2 h (n _).symm).symm, (ne_of a3 h (n _).symm).symm⟩
theorem Pool.imm {H H' : Hp} {a : PA} {c : Nat} (P : Pool H a c) (k : Kp a H H') : Imm H H' := fun b xs h => by
  rcases h with h | ⟨o, h⟩
  · exact .inl (k _ _ h (P.offo h fun _ q => by cases q))
  · exact .inr ⟨o, k _ _ h (P.offo h fun _ q => by cases q)⟩
/-- an object beside the pool is laid or changed -/
theorem Pool.upd {H : Hp} {a : PA} {b : Addr} {c : Nat} {o : HO} (P : Pool H a c) (n : Off a b) : Pool (upd H b o) a c := by
  obtain ⟨gs, ss, st, ct, a1, a2, a3, a4, a5, a6, a7, a8, a9, a10⟩ := P.ex
  exact ⟨gs, ss, st, ct, by rw [upd_ne n.1.symm]; exact a1, by rw [upd_ne n.2.1.symm]; exact a2, by rw [upd_ne n.2.2.symm]; exact a3, a4, a5, a6, a7, a8, a9, a10⟩
/-! ### rules within a comprehension's block: the written part by its name -/
section
variable {X : Cx}
theorem ixL (K : PySem.W.Frag) (h : X.K = K := by rfl) : IxR X (rIxL K) := by subst h; exact ix_list
theorem ixT (K : PySem.W.Frag) (h : X.K = K := by rfl) : IxR X (rIxT K) := by subst h; exact ix_tup
theorem inS (K : PySem.W.Frag) (h : X.K = K := by rfl) : OpR X (compareOp .In) (rIn K false) := by subst h; exact op_in_seq
theorem ninS (K : PySem.W.Frag) (h : X.K = K := by rfl) : OpR X (compareOp .NotIn) (rIn K true) := by subst h; exact op_notIn_seq
theorem lenS (K : PySem.W.Frag) (h : X.K = K := by rfl) : CallR X (.builtin "len") (fun xs H Q => ∃ p ys, xs = [.ref p] ∧ (SqL K H p ys ∨ SqT K H p ys) ∧ Q (.int ys.length) H) := by subst h; exact call_len_seq
theorem isiK (K : PySem.W.Frag) (h : X.K = K := by rfl) : CallR X (.builtin "isinstance") (rIsi K) := by subst h; exact call_isi
theorem tupOf (K : PySem.W.Frag) (h : X.K = K := by rfl) : CallR X (.type "tuple") (fun xs H Q => ∃ p ys, xs = [.ref p] ∧ ((SqL K H p ys ∧ ∀ l, H l = none → Q (.ref l) (upd H l (.tup ys))) ∨ (SqT K H p ys ∧ Q (.ref p) H))) := by subst h; exact call_tuple_of
theorem slL (K : PySem.W.Frag) (h : X.K = K := by rfl) : SlR X (rSlL K) := by subst h; exact sl_list
theorem slA (K : PySem.W.Frag) (h : X.K = K := by rfl) : SlR X (rSlA K) := by subst h; exact sl_tupA
theorem catA (K : PySem.W.Frag) (h : X.K = K := by rfl) : OpR X (binaryOp .Add) (rCatA K) := by subst h; exact op_catA
theorem sortS (K : PySem.W.Frag) (h : X.K = K := by rfl) : CallR X (.builtin "sorted") (rSortedS K) := by subst h; exact cr_sortedS
theorem sortI (K : PySem.W.Frag) (h : X.K = K := by rfl) : CallR X (.builtin "sorted") (rSorted K) := by subst h; exact cr_sorted
end
/-! ### comprehensions: what holds of the list so far -/
section
variable {K : PySem.W.Frag}
/-- over a range, its turns drawing from the pool (k draws a turn) -/
theorem lc_rangeP {lo : Int} {n j : Nat} {tt : TT} {te : TE} {vs : List Nat} {σ : L2.St} {H1 : Hp} {D : Addr} {Qd : Hp → Prop} {a : PA} {c0 : Nat} (k : Nat) (ok : Nat → List V → Prop)
    (P0 : Pool H1 a c0) (hD : H1 D = none) (hn : n ≤ 100000) (h0 : ok 0 []) (hw : ∀ x, wipe ((wipe σ vs).set j (some x)) vs = wipe σ vs)
    (turn : ∀ (i : Nat) (H : Hp) (acc : List V), i < n → Pool H a (c0 + i * k) → Kp a H1 H → ok i acc → acc.length ≤ i → ∀ (N1 : V → Hp → Prop) (N2 : Hp → Prop),
      (∀ y H', Pool H' a (c0 + i * k + k) → Kp a H H' → ok (i + 1) (acc ++ [y]) → N1 y H') → (∀ H', Pool H' a (c0 + i * k + k) → Kp a H H' → ok (i + 1) acc → N2 H') →
      tt ((wipe σ vs).set j (some (.int (lo + i)))) H fun b H3 => if b = true then te ((wipe σ vs).set j (some (.int (lo + i)))) H3 N1 else N2 H3)
    (done : ∀ (H : Hp) (acc : List V), Pool H a (c0 + n * k) → Kp a H1 H → H D = some (.lst acc) → acc.length ≤ n → ok n acc → Off a D → Qd H) :
    ∃ W : Nat → Nat → Hp → Prop, (∃ m, W 0 m (upd H1 D (.lst []))) ∧ ∀ i m H, W i m H →
      ((Itr lo n).stop i H ∧ Qd H) ∨ ((Itr lo n).go i H ∧ ∃ Nx : Hp → Prop, (∀ H', Nx H' → ∃ m', m' < m ∧ W (i + 1) m' H') ∧ ∀ x H', (Itr lo n).yld i H x H' → (gName j) x (wipe σ vs) H' fun σ2 H2 => wipe σ2 vs = wipe σ vs ∧ tt σ2 H2 fun b H3 =>
        if b = true then te σ2 H3 fun y H4 => ∃ acc, H4 D = some (.lst acc) ∧ acc.length < sizeLine ∧ Nx (upd H4 D (.lst (acc ++ [y]))) else Nx H3) := by
  have oD : Off a D := P0.off hD
  refine lc_range (lo := lo) (n := n) (fun i H => ∃ acc, Pool H a (c0 + i * k) ∧ Kp a H1 H ∧ H D = some (.lst acc) ∧ acc.length ≤ i ∧ ok i acc) ⟨[], ?_, skp (same_upd hD), upd_same, Nat.le_refl _, h0⟩ (fun i H hi p => ?_) (fun H p => ?_)
  · rw [Nat.zero_mul]
    exact P0.upd oD
  · obtain ⟨acc, p1, p2, p3, p4, p5⟩ := p
    refine ⟨hw _, turn i H acc hi p1 p2 p5 p4 _ _ (fun y H' q1 q2 q3 => ⟨acc, q2 _ _ p3 oD, szLt (by omega), acc ++ [y], ?_, ?_, upd_same, ?_, q3⟩) (fun H' q1 q2 q3 => ⟨acc, ?_, p2.trans q2, q2 _ _ p3 oD, by omega, q3⟩)⟩
    · rw [Nat.succ_mul, ← Nat.add_assoc]
      exact q1.upd oD
    · exact Kp.mut (p2.trans q2) hD
    · rw [List.length_append]
      show acc.length + 1 ≤ i + 1
      omega
    · rw [Nat.succ_mul, ← Nat.add_assoc]
      exact q1
  · obtain ⟨acc, p1, p2, p3, p4, p5⟩ := p
    exact done H acc p1 p2 p3 p4 p5 oD
/-- over a walked thing, its turns changing nothing that stood -/
theorem lc_rangeS {lo : Int} {n j : Nat} {tt : TT} {te : TE} {vs : List Nat} {σ : L2.St} {H1 : Hp} {D : Addr} {Qd : Hp → Prop} (ok : Nat → List V → Prop)
    (hD : H1 D = none) (hn : n ≤ 100000) (h0 : ok 0 []) (hw : ∀ x, wipe ((wipe σ vs).set j (some x)) vs = wipe σ vs)
    (turn : ∀ (i : Nat) (H : Hp) (acc : List V), i < n → Same H1 H → ok i acc → acc.length ≤ i → ∀ (N1 : V → Hp → Prop) (N2 : Hp → Prop),
      (∀ y H', Same H H' → ok (i + 1) (acc ++ [y]) → N1 y H') → (∀ H', Same H H' → ok (i + 1) acc → N2 H') →
      tt ((wipe σ vs).set j (some (.int (lo + i)))) H fun b H3 => if b = true then te ((wipe σ vs).set j (some (.int (lo + i)))) H3 N1 else N2 H3)
    (done : ∀ (H : Hp) (acc : List V), Same H1 H → H D = some (.lst acc) → acc.length ≤ n → ok n acc → Qd H) :
    ∃ W : Nat → Nat → Hp → Prop, (∃ m, W 0 m (upd H1 D (.lst []))) ∧ ∀ i m H, W i m H →
      ((Itr lo n).stop i H ∧ Qd H) ∨ ((Itr lo n).go i H ∧ ∃ Nx : Hp → Prop, (∀ H', Nx H' → ∃ m', m' < m ∧ W (i + 1) m' H') ∧ ∀ x H', (Itr lo n).yld i H x H' → (gName j) x (wipe σ vs) H' fun σ2 H2 => wipe σ2 vs = wipe σ vs ∧ tt σ2 H2 fun b H3 =>
        if b = true then te σ2 H3 fun y H4 => ∃ acc, H4 D = some (.lst acc) ∧ acc.length < sizeLine ∧ Nx (upd H4 D (.lst (acc ++ [y]))) else Nx H3) := by
  refine lc_range (lo := lo) (n := n) (fun i H => ∃ acc, Same H1 H ∧ H D = some (.lst acc) ∧ acc.length ≤ i ∧ ok i acc) ⟨[], same_upd hD, upd_same, Nat.le_refl _, h0⟩ (fun i H hi p => ?_) (fun H p => ?_)
  · obtain ⟨acc, p2, p3, p4, p5⟩ := p
    refine ⟨hw _, turn i H acc hi p2 p5 p4 _ _ (fun y H' q2 q3 => ⟨acc, q2 _ _ p3, szLt (by omega), acc ++ [y], smut (p2.trans q2) hD, upd_same, ?_, q3⟩) (fun H' q2 q3 => ⟨acc, p2.trans q2, q2 _ _ p3, by omega, q3⟩)⟩
    rw [List.length_append]
    show acc.length + 1 ≤ i + 1
    omega
  · obtain ⟨acc, p2, p3, p4, p5⟩ := p
    exact done H acc p2 p3 p4 p5
theorem lc_listS {a : Addr} {xs : List V} {j : Nat} {tt : TT} {te : TE} {vs : List Nat} {σ : L2.St} {H1 : Hp} {D : Addr} {Qd : Hp → Prop} (ok : Nat → List V → Prop)
    (hx : SqL K H1 a xs) (hD : H1 D = none) (hn : xs.length ≤ 100000) (h0 : ok 0 []) (hw : ∀ x, wipe ((wipe σ vs).set j (some x)) vs = wipe σ vs)
    (turn : ∀ (i : Nat) (x : V) (H : Hp) (acc : List V), xs[i]? = some x → Same H1 H → ok i acc → acc.length ≤ i → ∀ (N1 : V → Hp → Prop) (N2 : Hp → Prop),
      (∀ y H', Same H H' → ok (i + 1) (acc ++ [y]) → N1 y H') → (∀ H', Same H H' → ok (i + 1) acc → N2 H') →
      tt ((wipe σ vs).set j (some x)) H fun b H3 => if b = true then te ((wipe σ vs).set j (some x)) H3 N1 else N2 H3)
    (done : ∀ (H : Hp) (acc : List V), Same H1 H → H D = some (.lst acc) → acc.length ≤ xs.length → ok xs.length acc → Qd H) :
    ∃ W : Nat → Nat → Hp → Prop, (∃ m, W 0 m (upd H1 D (.lst []))) ∧ ∀ i m H, W i m H →
      ((Itl K a).stop i H ∧ Qd H) ∨ ((Itl K a).go i H ∧ ∃ Nx : Hp → Prop, (∀ H', Nx H' → ∃ m', m' < m ∧ W (i + 1) m' H') ∧ ∀ x H', (Itl K a).yld i H x H' → (gName j) x (wipe σ vs) H' fun σ2 H2 => wipe σ2 vs = wipe σ vs ∧ tt σ2 H2 fun b H3 =>
        if b = true then te σ2 H3 fun y H4 => ∃ acc, H4 D = some (.lst acc) ∧ acc.length < sizeLine ∧ Nx (upd H4 D (.lst (acc ++ [y]))) else Nx H3) := by
  refine lc_list (xs := xs) (fun i H => ∃ acc, Same H1 H ∧ H D = some (.lst acc) ∧ acc.length ≤ i ∧ ok i acc) ⟨[], same_upd hD, upd_same, Nat.le_refl _, h0⟩ (fun i H _ p => ?_) (fun i x H hi p => ?_) (fun H p => ?_)
  · obtain ⟨acc, p2, _⟩ := p
    exact p2.seq hx
  · obtain ⟨acc, p2, p3, p4, p5⟩ := p
    have hil : i < xs.length := (List.getElem?_eq_some_iff.mp hi).1
    refine ⟨hw _, turn i x H acc hi p2 p5 p4 _ _ (fun y H' q2 q3 => ⟨acc, q2 _ _ p3, szLt (by omega), acc ++ [y], smut (p2.trans q2) hD, upd_same, ?_, q3⟩) (fun H' q2 q3 => ⟨acc, p2.trans q2, q2 _ _ p3, by omega, q3⟩)⟩
    rw [List.length_append]
    show acc.length + 1 ≤ i + 1
    omega
  · obtain ⟨acc, p2, p3, p4, p5⟩ := p
    exact done H acc p2 p3 p4 p5
theorem lc_tupS {a : Addr} {xs : List V} {j : Nat} {tt : TT} {te : TE} {vs : List Nat} {σ : L2.St} {H1 : Hp} {D : Addr} {Qd : Hp → Prop} (ok : Nat → List V → Prop)
    (hx : SqT K H1 a xs) (hD : H1 D = none) (hn : xs.length ≤ 100000) (h0 : ok 0 []) (hw : ∀ x, wipe ((wipe σ vs).set j (some x)) vs = wipe σ vs)
    (turn : ∀ (i : Nat) (x : V) (H : Hp) (acc : List V), xs[i]? = some x → Same H1 H → ok i acc → acc.length ≤ i → ∀ (N1 : V → Hp → Prop) (N2 : Hp → Prop),
      (∀ y H', Same H H' → ok (i + 1) (acc ++ [y]) → N1 y H') → (∀ H', Same H H' → ok (i + 1) acc → N2 H') →
      tt ((wipe σ vs).set j (some x)) H fun b H3 => if b = true then te ((wipe σ vs).set j (some x)) H3 N1 else N2 H3)
    (done : ∀ (H : Hp) (acc : List V), Same H1 H → H D = some (.lst acc) → acc.length ≤ xs.length → ok xs.length acc → Qd H) :
    ∃ W : Nat → Nat → Hp → Prop, (∃ m, W 0 m (upd H1 D (.lst []))) ∧ ∀ i m H, W i m H →
      ((Itt K a).stop i H ∧ Qd H) ∨ ((Itt K a).go i H ∧ ∃ Nx : Hp → Prop, (∀ H', Nx H' → ∃ m', m' < m ∧ W (i + 1) m' H') ∧ ∀ x H', (Itt K a).yld i H x H' → (gName j) x (wipe σ vs) H' fun σ2 H2 => wipe σ2 vs = wipe σ vs ∧ tt σ2 H2 fun b H3 =>
        if b = true then te σ2 H3 fun y H4 => ∃ acc, H4 D = some (.lst acc) ∧ acc.length < sizeLine ∧ Nx (upd H4 D (.lst (acc ++ [y]))) else Nx H3) := by
  refine lc_tup (xs := xs) (fun i H => ∃ acc, Same H1 H ∧ H D = some (.lst acc) ∧ acc.length ≤ i ∧ ok i acc) ⟨[], same_upd hD, upd_same, Nat.le_refl _, h0⟩ (fun i H _ p => ?_) (fun i x H hi p => ?_) (fun H p => ?_)
  · obtain ⟨acc, p2, _⟩ := p
    exact ssqt p2 hx
  · obtain ⟨acc, p2, p3, p4, p5⟩ := p
    have hil : i < xs.length := (List.getElem?_eq_some_iff.mp hi).1
    refine ⟨hw _, turn i x H acc hi p2 p5 p4 _ _ (fun y H' q2 q3 => ⟨acc, q2 _ _ p3, szLt (by omega), acc ++ [y], smut (p2.trans q2) hD, upd_same, ?_, q3⟩) (fun H' q2 q3 => ⟨acc, p2.trans q2, q2 _ _ p3, by omega, q3⟩)⟩
    rw [List.length_append]
    show acc.length + 1 ≤ i + 1
    omega
  · obtain ⟨acc, p2, p3, p4, p5⟩ := p
    exact done H acc p2 p3 p4 p5
end

/-- what the top leaves of the names that the text reads -/
structure Bi (mg : Str → Option Value) : Prop where
  ValueError : mg "ValueError" = none
  len : mg "len" = none
  range : mg "range" = none
  isinstance : mg "isinstance" = none
  tuple : mg "tuple" = none
  bool : mg "bool" = none
  int : mg "int" = none
  str : mg "str" = none
  sorted : mg "sorted" = none
  list : mg "list" = none

/-! ### _law_pool, _law_draw -/
abbrev s_law_pool : Stmt := topS 20
theorem sc_law_pool : FnScope ["_law_script", "_law_great", "_law_cell"] ["_law_script"] (defScope s_law_pool) := ⟨rfl, rfl, rfl, by decide +kernel, rfl, by decide +kernel, by decide +kernel⟩
abbrev s_law_draw : Stmt := topS 21
theorem sc_law_draw : FnScope ["_law_pool_here", "_law_many", "_law_cell"] ["_law_pool_here", "_law_many"] (defScope s_law_draw) := ⟨rfl, rfl, rfl, by decide +kernel, rfl, by decide +kernel, by decide +kernel⟩
section
variable {P : Program} {w : World} {K : PySem.W.Frag} {mg : Str → Option Value} {base : Heap}
def spPool (K : PySem.W.Frag) : Sp := fun vs H Q _ => ∃ (l : Addr) (ns : List Int), vs = [.ref l] ∧ SqL K H l (ns.map V.int) ∧ ns.length ≤ 63 ∧ ∀ H' a, Same H H' → Pool H' a 0 → Q (.ref a.p) H'
theorem ok_pool {f : Addr} {fd : FuncData} (F : Fun K "_law_pool" "_law_pool" s_law_pool f fd) : FnOk P w K mg base CX0 1 f fd ["_law_script"] (spPool K) := by
  refine F.ok sc_law_pool (fun vs H Q E h => ?_) (fun cdv A outer s H vs Q E hr h => ?_)
  · obtain ⟨l, ns, rfl, _⟩ := h
    rfl
  · obtain ⟨l, ns, rfl, hS, hlen, q⟩ := h
    refine ⟨_, (pss_cons (ps_setLc (i := 1) (own := [("_law_cell", 2)]) (g := gName 2) (by rfl) sc_law_pool.nd rfl rfl (sw_true rfl rfl rfl (by decide +kernel)) (pi_list (pv 0)) (blkOk_by (own := [("_law_cell", 2)]) (N := ["_law_script", "_law_great", "_law_cell"]) (sc := defScope s_law_pool) (by decide +kernel)) (fun _ _ _ _ _ => (pg_name (i := 2) sc_law_pool.nd rfl (.inl rfl))) (fun _ _ _ _ _ => (pts_one (pt_cmpR op_ge (pv 2) (pe_op op_pow pe_int pe_int) (nomark _)))) (fun _ _ _ _ _ => (pv 2)))
      (pss_one (ps_ret (pe_lst (pa_cons (pv 1) (pa_cons (pe_lc (own := [("_law_cell", 2)]) (g := gName 2) rfl sc_law_pool.nd (pi_list (pv 0)) (blkOk_by (own := [("_law_cell", 2)]) (N := ["_law_script", "_law_great", "_law_cell"]) (sc := defScope s_law_pool) (by decide +kernel)) (fun _ _ _ _ _ => (pg_name (i := 2) sc_law_pool.nd rfl (.inl rfl))) (fun _ _ _ _ _ => (pts_one (pt_cmpR op_lt (pv 2) (pe_op op_pow pe_int pe_int) (nomark _)))) (fun _ _ _ _ _ => (pv 2))) (pa_cons pe_int (pa_cons pe_int pa_nil)))))))), ?_⟩
    refine ⟨_, rfl, l, rfl, ⟨_, hS⟩, fun D hD => lc_listS (K := K) (a := l) (xs := ns.map V.int) (fun i acc => ∃ gs : List Int, acc = gs.map V.int) hS hD (by rw [List.length_map]; omega) ⟨[], rfl⟩ (fun _ => rfl) ?_ ?_⟩
    · intro i x H1 acc hx s1 ⟨gs, hg⟩ _ N1 N2 k1 k2
      obtain ⟨z, hz, rfl⟩ := map_get hx
      refine ⟨_, rfl, _, _, rfl, rfl, ⟨by decide, by decide, by decide⟩, _, _, rfl, rfl, _, rfl, ite2 (fun e => ?_) (fun e => ?_)⟩
      · exact ⟨_, rfl, k1 _ _ (Same.refl _) ⟨gs ++ [z], by rw [hg, List.map_append]; rfl⟩⟩
      · exact k2 _ (Same.refl _) ⟨gs, hg⟩
    · intro H1 acc s1 hD1 la ⟨gs, hg⟩
      subst hg
      have hS1 : SqL K H1 l (ns.map V.int) := s1.seq hS
      refine ⟨_, rfl, _, rfl, l, rfl, ⟨_, hS1⟩, fun D2 hD2 => lc_listS (K := K) (a := l) (xs := ns.map V.int) (fun i acc => ∃ gs : List Int, acc = gs.map V.int) hS1 hD2 (by rw [List.length_map]; omega) ⟨[], rfl⟩ (fun _ => rfl) ?_ ?_⟩
      · intro i x H2 acc hx s2 ⟨gs, hg⟩ _ N1 N2 k1 k2
        obtain ⟨z, hz, rfl⟩ := map_get hx
        refine ⟨_, rfl, _, _, rfl, rfl, ⟨by decide, by decide, by decide⟩, _, _, rfl, rfl, _, rfl, ite2 (fun e => ?_) (fun e => ?_)⟩
        · exact ⟨_, rfl, k1 _ _ (Same.refl _) ⟨gs ++ [z], by rw [hg, List.map_append]; rfl⟩⟩
        · exact k2 _ (Same.refl _) ⟨gs, hg⟩
      · intro H2 acc s2 hD2' la2 ⟨ss, hs⟩
        subst hs
        refine ⟨by show 4 ≤ sizeLine; decide, fun p hp => q _ ⟨p, D, D2⟩ ((s1.trans s2).trans (same_upd hp)) ⟨gs, ss, 5, 0, upd_same, ?_, ?_, ?_, ?_, by decide, by decide, by decide, by decide, ?_⟩⟩
        · show upd H2 p _ D = _
          rw [upd_ne (ne_of_none (s2 _ _ hD1) hp)]
          exact s2 _ _ hD1
        · show upd H2 p _ D2 = _
          rw [upd_ne (ne_of_none hD2' hp)]
          exact hD2'
        · rw [List.length_map, List.length_map] at la
          omega
        · rw [List.length_map, List.length_map] at la2
          omega
        · exact (ne_of_none hD1 hD2).symm
def spDraw : Sp := fun vs H Q _ => ∃ (a : PA) (c : Nat) (m : Int), vs = [.ref a.p, .int m] ∧ Pool H a c ∧ c < 1000000 ∧ 0 < m ∧ m < 1073741824 ∧
  ∀ H' r, 0 ≤ r → r < m → Pool H' a (c + 1) → Kp a H H' → Q (.int r) H'
theorem ok_draw {f : Addr} {fd : FuncData} (F : Fun K "_law_draw" "_law_draw" s_law_draw f fd) (T : Bi mg) : FnOk P w K mg base CX0 1 f fd ["_law_pool_here", "_law_many"] spDraw := by
  refine F.ok sc_law_draw (fun vs H Q E h => ?_) (fun cdv A outer s H vs Q E hr h => ?_)
  · obtain ⟨a, c, m, rfl, _⟩ := h
    rfl
  · obtain ⟨⟨p, g, s⟩, c, m, rfl, PP, hc, hm0, hm1, q⟩ := h
    obtain ⟨gs, ss, st, ct, a1, a2, a3, a4, a5, a6, a7, a8, a9, a10⟩ := PP.ex
    have npg : p ≠ g := ne_of a1 a2 (by intro q; have := HO.lst.inj q; cases gs <;> cases this)
    have nps : p ≠ s := ne_of a1 a3 (by intro q; have := HO.lst.inj q; cases ss <;> cases this)
    refine ⟨_, (pss_cons (ps_if (pt_cmpR op_gt (pe_callB call_len_seq (by rfl) T.len PySem.boot_len (pa_cons (pe_ix ix_list (pv 0) pe_int (fun _ _ => rfl)) pa_nil)) pe_int (nomark _))
        (pss_cons (ps_set (i := 2) sc_law_draw.nd rfl (.inl rfl) (pe_ix ix_list (pe_ix ix_list (pv 0) pe_int (fun _ _ => rfl)) pe_int (fun _ _ => rfl)))
        (pss_cons (ps_asg (pe_op op_fdiv (pv 2) (pv 1)) (pg_sub (pe_ix ix_list (pv 0) pe_int (fun _ _ => rfl)) pe_int set_list))
        (pss_cons (ps_if (pt_cmpR op_eq (pe_op op_fdiv (pv 2) (pv 1)) pe_int (nomark _))
          (pss_one (ps_expr (pe_bm PySem.F.plainAttrs_list PySem.F.slot_list_pop PySem.F.type_list_pop mt_popAt (pe_ix ix_list (pv 0) pe_int (fun _ _ => rfl)) (pa_cons pe_int pa_nil))))
          pss_nil)
        (pss_one (ps_ret (pe_op op_mod (pv 2) (pv 1)))))))
        pss_nil)
      (pss_cons (ps_asg (pe_op op_add (pe_ix ix_list (pv 0) pe_int (fun _ _ => rfl)) pe_int) (pg_sub (pv 0) pe_int set_list))
      (pss_cons (ps_set (i := 2) sc_law_draw.nd rfl (.inl rfl) pe_int)
      (pss_cons (ps_if (pt_cmpR op_gt (pe_callB call_len_seq (by rfl) T.len PySem.boot_len (pa_cons (pe_ix ix_list (pv 0) pe_int (fun _ _ => rfl)) pa_nil)) pe_int (nomark _))
        (pss_one (ps_set (i := 2) sc_law_draw.nd rfl (.inl rfl) (pe_ix ix_list (pe_ix ix_list (pv 0) pe_int (fun _ _ => rfl)) (pe_op op_mod (pe_ix ix_list (pv 0) pe_int (fun _ _ => rfl)) (pe_callB call_len_seq (by rfl) T.len PySem.boot_len (pa_cons (pe_ix ix_list (pv 0) pe_int (fun _ _ => rfl)) pa_nil))) (fun _ _ => rfl))))
        pss_nil)
      (pss_cons (ps_set (i := 2) sc_law_draw.nd rfl (.inl rfl) (pe_op op_mul (pe_op op_mod (pv 2) pe_int) (pe_op op_add (pe_op op_mul (pe_ix ix_list (pv 0) pe_int (fun _ _ => rfl)) (pe_ix ix_list (pv 0) pe_int (fun _ _ => rfl))) pe_int)))
      (pss_cons (ps_asg (pe_op op_mod (pe_op op_add (pe_op op_add (pe_op op_mul (pe_ix ix_list (pv 0) pe_int (fun _ _ => rfl)) pe_int) (pv 2)) (pe_op op_mul pe_int (pe_ix ix_list (pv 0) pe_int (fun _ _ => rfl)))) pe_int) (pg_sub (pv 0) pe_int set_list))
      (pss_one (ps_ret (pe_op op_mod (pe_op op_fdiv (pe_op op_mod (pe_op op_pow (pe_ix ix_list (pv 0) pe_int (fun _ _ => rfl)) pe_int) pe_int) pe_int) (pv 1)))))))))), ?_⟩
    -- if len(pool[0]) > 0
    refine ⟨_, rfl, p, _, _, _, rfl, rfl, SqL.of a1, at_of (j := 0) rfl rfl, g, _, rfl, .inl (SqL.of a2), _, _, rfl, rfl, _, rfl, ite2 (fun e => ?_) (fun e => ?_)⟩
    · obtain ⟨z, r, rfl⟩ : ∃ z r, gs = z :: r := by
        cases gs with
        | nil => exact absurd e (by decide)
        | cons z r => exact ⟨z, r, rfl⟩
      refine ⟨_, rfl, p, _, _, _, rfl, rfl, SqL.of a1, at_of (j := 0) rfl rfl, g, _, _, .int z, rfl, rfl, SqL.of a2, at_of (j := 0) rfl rfl, ?_⟩
      have a1' : ∀ o, upd H g o p = some (.lst [.ref g, .ref s, .int st, .int ct]) := fun o => by
        rw [upd_ne npg]
        exact a1
      have a3' : ∀ o, upd H g o s = some (.lst (ss.map V.int)) := fun o => by
        rw [upd_ne a10]
        exact a3
      refine ⟨_, rfl, _, rfl, _, _, rfl, rfl, ⟨hm0, hm1⟩, _, rfl, p, _, _, _, rfl, rfl, SqL.of a1, at_of (j := 0) rfl rfl, g, _, 0, 0, rfl, rfl, a2, ixN0 (by simp), ?_⟩
      refine ⟨_, rfl, _, rfl, _, _, rfl, rfl, ⟨hm0, hm1⟩, rfl, _, rfl, ite2 (fun e0 => ?_) (fun e0 => ?_)⟩
      · refine ⟨_, rfl, p, _, _, _, rfl, rfl, SqL.of (a1' _), at_of (j := 0) rfl rfl, .inl ⟨rfl, _, SqL.of upd_same⟩, g, _, 0, 0, _, rfl, rfl, upd_same, by decide, by decide, six0 (by simp), rfl, ?_⟩
        refine ⟨_, rfl, _, rfl, _, _, rfl, rfl, hm0, ?_⟩
        refine q _ _ (Int.emod_nonneg _ (by omega)) (Int.emod_lt_of_pos _ hm0) ⟨r, ss, st, ct, ?_, ?_, ?_, ?_, a5, a6, a7, a8, by omega, a10⟩ (fun b o hb n => ?_)
        · rw [upd_upd]
          exact a1' _
        · show upd _ g _ g = _
          rw [upd_same]
          rfl
        · rw [upd_upd]
          exact a3' _
        · simp at a4
          omega
        · rw [upd_ne n.2.1, upd_ne n.2.1]
          exact hb
      · refine ⟨_, rfl, _, rfl, _, _, rfl, rfl, hm0, ?_⟩
        refine q _ _ (Int.emod_nonneg _ (by omega)) (Int.emod_lt_of_pos _ hm0) ⟨(z / m) :: r, ss, st, ct, a1' _, ?_, a3' _, ?_, a5, a6, a7, a8, by omega, a10⟩ (fun b o hb n => ?_)
        · show upd _ g _ g = _
          rw [upd_same]
          rfl
        · simpa using a4
        · rw [upd_ne n.2.1]
          exact hb
    · -- pool[3] = pool[3] + 1
      refine ⟨_, rfl, p, _, _, _, rfl, rfl, SqL.of a1, at_of (j := 3) rfl rfl, _, _, rfl, rfl, _, rfl, p, _, 3, 3, rfl, rfl, a1, rfl, ?_⟩
      have w1 : upd H p (.lst [.ref g, .ref s, .int st, .int (ct + 1)]) p = some (.lst [.ref g, .ref s, .int st, .int (ct + 1)]) := upd_same
      have w2 : ∀ o, upd H p o g = some (.lst (gs.map V.int)) := fun o => by
        rw [upd_ne npg.symm]
        exact a2
      have w3 : ∀ o, upd H p o s = some (.lst (ss.map V.int)) := fun o => by
        rw [upd_ne nps.symm]
        exact a3
      -- cell = 0; if len(pool[1]) > 0
      refine ⟨_, rfl, p, _, _, _, rfl, rfl, SqL.of w1, at_of (j := 1) rfl rfl, s, _, rfl, .inl (SqL.of (w3 _)), _, _, rfl, rfl, _, rfl, ite2 (fun e => ?_) (fun e => ?_)⟩
      · have l0 : 0 < ss.length := by
          have := of_decide_eq_true e
          simpa using this
        have l1 : 0 ≤ (ct + 1) % (ss.length : Int) := Int.emod_nonneg _ (by omega)
        have l2 : (ct + 1) % (ss.length : Int) < ss.length := Int.emod_lt_of_pos _ (by omega)
        obtain ⟨j, ej⟩ : ∃ j : Nat, (ct + 1) % (ss.length : Int) = (j : Int) := ⟨_, (Int.toNat_of_nonneg l1).symm⟩
        have hj : j < ss.length := by omega
        have gj : (ss.map V.int)[j]? = some (.int ss[j]) := get_map (List.getElem?_eq_getElem hj)
        refine ⟨_, rfl, p, _, _, _, rfl, rfl, SqL.of w1, at_of (j := 1) rfl rfl, _, rfl, p, _, _, _, rfl, rfl, SqL.of w1, at_of (j := 3) rfl rfl, _, rfl, p, _, _, _, rfl, rfl, SqL.of w1, at_of (j := 1) rfl rfl, s, _, rfl, .inl (SqL.of (w3 _)), _, _, rfl, rfl, (by rw [List.length_map]; omega),
          s, _, _, _, rfl, rfl, SqL.of (w3 _), at_of (by rw [List.length_map]; exact ej) gj, ?_⟩
        generalize ss[j] = y
        refine ⟨_, rfl, _, _, rfl, rfl, (by show (0 : Int) < _; decide), _, rfl, p, _, _, _, rfl, rfl, SqL.of w1, at_of (j := 3) rfl rfl, _, rfl, p, _, _, _, rfl, rfl, SqL.of w1, at_of (j := 3) rfl rfl, _, _, rfl, rfl, .inl ⟨by omega, by omega⟩, _, _, rfl, rfl, _, _, rfl, rfl, .inl ⟨by omega, by omega⟩, ?_⟩
        refine ⟨_, rfl, p, _, _, _, rfl, rfl, SqL.of w1, at_of (j := 2) rfl rfl, _, _, rfl, rfl, .inl ⟨by omega, by omega⟩, _, rfl, _, _, rfl, rfl, _, rfl, p, _, _, _, rfl, rfl, SqL.of w1, at_of (j := 3) rfl rfl, _, _, rfl, rfl, .inl ⟨by omega, by omega⟩, _, _, rfl, rfl, _, _, rfl, rfl, (by show (0 : Int) < _; decide), _, rfl, p, _, 2, 2, rfl, rfl, w1, rfl, ?_⟩
        dsimp only [List.set]
        generalize hz : ((st * 48271 + y % 2147483629 * ((ct + 1) * (ct + 1) + 1) + 97 * (ct + 1)) % 2147483647 : Int) = z
        have hz0 : 0 ≤ z := by omega
        have hz1 : z < 2147483647 := by omega
        have w5 : upd (upd H p (.lst [.ref g, .ref s, .int st, .int (ct + 1)])) p (.lst [.ref g, .ref s, .int z, .int (ct + 1)]) p = some (.lst [.ref g, .ref s, .int z, .int (ct + 1)]) := upd_same
        refine ⟨_, rfl, p, _, _, _, rfl, rfl, SqL.of w5, at_of (j := 2) rfl rfl, _, _, rfl, rfl, ⟨by decide, by decide, by omega⟩, _, _, rfl, rfl, (by show (0 : Int) < _; decide), _, _, rfl, rfl, ⟨by decide, by decide⟩, _, rfl, _, _, rfl, rfl, hm0, ?_⟩
        refine q _ _ (Int.emod_nonneg _ (by omega)) (Int.emod_lt_of_pos _ hm0) ⟨gs, ss, z, ct + 1, w5, ?_, ?_, a4, a5, hz0, hz1, by omega, by omega, a10⟩ (fun b o hb n => ?_)
        · rw [upd_upd]
          exact w2 _
        · rw [upd_upd]
          exact w3 _
        · rw [upd_upd, upd_ne n.1]
          exact hb
      · refine ⟨_, rfl, _, _, rfl, rfl, (by show (0 : Int) < _; decide), _, rfl, p, _, _, _, rfl, rfl, SqL.of w1, at_of (j := 3) rfl rfl, _, rfl, p, _, _, _, rfl, rfl, SqL.of w1, at_of (j := 3) rfl rfl, _, _, rfl, rfl, .inl ⟨by omega, by omega⟩, _, _, rfl, rfl, _, _, rfl, rfl, .inl ⟨by omega, by omega⟩, ?_⟩
        refine ⟨_, rfl, p, _, _, _, rfl, rfl, SqL.of w1, at_of (j := 2) rfl rfl, _, _, rfl, rfl, .inl ⟨by omega, by omega⟩, _, rfl, _, _, rfl, rfl, _, rfl, p, _, _, _, rfl, rfl, SqL.of w1, at_of (j := 3) rfl rfl, _, _, rfl, rfl, .inl ⟨by omega, by omega⟩, _, _, rfl, rfl, _, _, rfl, rfl, (by show (0 : Int) < _; decide), _, rfl, p, _, 2, 2, rfl, rfl, w1, rfl, ?_⟩
        dsimp only [List.set]
        generalize hz : ((st * 48271 + 0 % 2147483629 * ((ct + 1) * (ct + 1) + 1) + 97 * (ct + 1)) % 2147483647 : Int) = z
        have hz0 : 0 ≤ z := by omega
        have hz1 : z < 2147483647 := by omega
        have w5 : upd (upd H p (.lst [.ref g, .ref s, .int st, .int (ct + 1)])) p (.lst [.ref g, .ref s, .int z, .int (ct + 1)]) p = some (.lst [.ref g, .ref s, .int z, .int (ct + 1)]) := upd_same
        refine ⟨_, rfl, p, _, _, _, rfl, rfl, SqL.of w5, at_of (j := 2) rfl rfl, _, _, rfl, rfl, ⟨by decide, by decide, by omega⟩, _, _, rfl, rfl, (by show (0 : Int) < _; decide), _, _, rfl, rfl, ⟨by decide, by decide⟩, _, rfl, _, _, rfl, rfl, hm0, ?_⟩
        refine q _ _ (Int.emod_nonneg _ (by omega)) (Int.emod_lt_of_pos _ hm0) ⟨gs, ss, z, ct + 1, w5, ?_, ?_, a4, a5, hz0, hz1, by omega, by omega, a10⟩ (fun b o hb n => ?_)
        · rw [upd_upd]
          exact w2 _
        · rw [upd_upd]
          exact w3 _
        · rw [upd_upd, upd_ne n.1]
          exact hb
end

def wordsL : List Str := ["yes", "no", "not", "and", "or", "step", "some", "all", "next", "once", "ever", "until", "unless"]
def lettersS : Str := "abcdefghijklmnopqrstuvwxyz"
structure Wd (K : PySem.W.Frag) (mg : Str → Option Value) where
  aW : Addr
  uL : Value
  gWORDS : mg "WORDS" = some (.ref aW)
  rWORDS : RelV (.ref aW) (.ref aW)
  sW : ∀ H, SqT K H aW (wordsL.map V.str)
  gLETTERS : mg "LETTERS" = some uL
  rLETTERS : RelV (.str lettersS) uL
/-- a text that is_name takes -/
structure GoodName (z : Str) : Prop where
  lo : 1 ≤ z.length
  hi : z.length ≤ 8
  nw : z ∉ wordsL
  al : ∀ c ∈ z.cps.toList, c ∈ lettersS.cps.toList
theorem flat_str (xs : List Str) : (xs.map V.str).all flatV = true := by
  rw [List.all_map, List.all_eq_true]
  exact fun _ _ => rfl
theorem flat_int (xs : List Int) : (xs.map V.int).all flatV = true := by
  rw [List.all_map, List.all_eq_true]
  exact fun _ _ => rfl
theorem inV_str (z : Str) (xs : List Str) : inV (.str z) (xs.map V.str) = decide (z ∈ xs) := by
  unfold inV
  rw [List.any_map]
  by_cases h : z ∈ xs
  · rw [decide_eq_true h, List.any_eq_true]
    exact ⟨z, h, by simp [Function.comp, eqV]⟩
  · rw [decide_eq_false h, List.any_eq_false]
    intro y hy q
    exact h (by simp [Function.comp, eqV] at q; rw [← q]; exact hy)
theorem inV_int (z : Int) (xs : List Int) : inV (.int z) (xs.map V.int) = decide (z ∈ xs) := by
  unfold inV
  rw [List.any_map]
  by_cases h : z ∈ xs
  · rw [decide_eq_true h, List.any_eq_true]
    exact ⟨z, h, by simp [Function.comp, eqV]⟩
  · rw [decide_eq_false h, List.any_eq_false]
    intro y hy q
    exact h (by simp [Function.comp, eqV] at q; rw [← q]; exact hy)

/-! ### rising rows -/
/-- a rising row of numbers below many -/
def RiseI (many : Int) (ns : List Int) : Prop := ns.Pairwise (· < ·) ∧ ∀ n ∈ ns, 0 ≤ n ∧ n < many
theorem rise_len {many : Int} {ns : List Int} (h : RiseI many ns) (hm : 0 ≤ many) : (ns.length : Int) ≤ many := by
  have key : ∀ (ns : List Int) (lo : Int), ns.Pairwise (· < ·) → (∀ n ∈ ns, lo ≤ n ∧ n < many) → lo ≤ many → (ns.length : Int) ≤ many - lo := by
    intro ns
    induction ns with
    | nil =>
      intro lo _ _ h
      show (0 : Int) ≤ _
      omega
    | cons x r ih =>
      intro lo hp hb hl
      obtain ⟨p1, p2⟩ := List.pairwise_cons.mp hp
      have b1 := hb x List.mem_cons_self
      have := ih (x + 1) p2 (fun n hn => ⟨by have := p1 n hn; omega, (hb n (List.mem_cons_of_mem _ hn)).2⟩) (by omega)
      rw [List.length_cons]
      omega
  have := key ns 0 h.1 h.2 hm
  omega
/-- a rising row of names -/
def RiseS (zs : List Str) : Prop := zs.Pairwise (fun x y => x.cps.toList < y.cps.toList) ∧ ∀ z ∈ zs, GoodName z

/-! ### fairtrees.signs, on what it takes -/
abbrev sis_whole : Stmt := topS 8
theorem scis_whole : FnScope ["thing"] ["thing"] (defScope sis_whole) := ⟨rfl, rfl, rfl, by decide +kernel, rfl, by decide +kernel, by decide +kernel⟩
abbrev sis_number : Stmt := topS 9
theorem scis_number : FnScope ["thing", "low", "high"] ["thing", "low", "high"] (defScope sis_number) := ⟨rfl, rfl, rfl, by decide +kernel, rfl, by decide +kernel, by decide +kernel⟩
abbrev sis_row : Stmt := topS 10
theorem scis_row : FnScope ["thing", "least", "most"] ["thing", "least", "most"] (defScope sis_row) := ⟨rfl, rfl, rfl, by decide +kernel, rfl, by decide +kernel, by decide +kernel⟩
abbrev sis_set : Stmt := topS 12
theorem scis_set : FnScope ["thing", "many", "last", "one"] ["thing", "many"] (defScope sis_set) := ⟨rfl, rfl, rfl, by decide +kernel, rfl, by decide +kernel, by decide +kernel⟩
abbrev sare_names : Stmt := topS 13
theorem scare_names : FnScope ["thing", "most", "last", "name"] ["thing", "most"] (defScope sare_names) := ⟨rfl, rfl, rfl, by decide +kernel, rfl, by decide +kernel, by decide +kernel⟩
abbrev sis_machine : Stmt := topS 15
theorem scis_machine : FnScope ["thing", "steps", "marks", "many", "ahead", "names"] ["thing"] (defScope sis_machine) := ⟨rfl, rfl, rfl, by decide +kernel, rfl, by decide +kernel, by decide +kernel⟩
section
variable {P : Program} {w : World} {K : PySem.W.Frag} {mg : Str → Option Value} {base : Heap}
def spWhole : Sp := fun vs H Q _ => ∃ i : Int, vs = [.int i] ∧ Q (.bl true) H
theorem ok_whole {f : Addr} {fd : FuncData} (F : Fun K "is_whole" "is_whole" sis_whole f fd) (T : Bi mg) : FnOk P w K mg base CX0 1 f fd ["thing"] spWhole := by
  refine F.ok scis_whole (fun vs H Q E h => ?_) (fun cdv A outer s H vs Q E hr h => ?_)
  · obtain ⟨i, rfl, _⟩ := h
    rfl
  · obtain ⟨i, rfl, q⟩ := h
    refine ⟨_, (pss_one (ps_ret (pe_and (pe_callB call_isi (by rfl) T.isinstance (by decide +kernel) (pa_cons (pv 0) (pa_cons (pe_bltn (v := .ty "int") (u := .type "int") (by rfl) T.int (by decide +kernel) rfl) pa_nil))) (pe_one (pe_not (pe_callB call_isi (by rfl) T.isinstance (by decide +kernel) (pa_cons (pv 0) (pa_cons (pe_bltn (v := .ty "bool") (u := .type "bool") (by rfl) T.bool (by decide +kernel) rfl) pa_nil)))))))), ?_⟩
    exact ⟨_, rfl, _, _, _, _, true, rfl, .ty "int", .base (.int _), kit_ty (by decide +kernel), true, rfl, iteT ⟨_, rfl, _, _, _, _, false, rfl, .ty "bool", .base (.int _), kit_ty (by decide +kernel), _, rfl, q⟩⟩
def spNumber : Sp := fun vs H Q _ => ∃ i lo hi : Int, vs = [.int i, .int lo, .int hi] ∧ Q (.bl (decide (lo ≤ i) && decide (i < hi))) H
theorem ok_number {f : Addr} {fd : FuncData} (F : Fun K "is_number" "is_number" sis_number f fd) (T : Bi mg) (cis_whole : Cal P w K mg base 1 "is_whole" ["thing"] spWhole) : FnOk P w K mg base CX0 2 f fd ["thing", "low", "high"] spNumber := by
  refine F.ok scis_number (fun vs H Q E h => ?_) (fun cdv A outer s H vs Q E hr h => ?_)
  · obtain ⟨i, lo, hi, rfl, _⟩ := h
    rfl
  · obtain ⟨i, lo, hi, rfl, q⟩ := h
    refine ⟨_, (pss_one (ps_ret (pe_and (pe_call cis_whole.G hr (by rfl) cis_whole.g cis_whole.kp cis_whole.b .nil pass0 (pa_cons (pv 0) pa_nil)) (pe_one (pe_chain op_le op_lt (pv 1) (pv 0) (pv 2)))))), ?_⟩
    refine ⟨_, rfl, i, rfl, true, rfl, iteT ⟨_, rfl, _, rfl, lo, i, rfl, rfl, _, rfl, ite2 (fun e => ?_) (fun e => ?_)⟩⟩
    · refine ⟨_, rfl, i, hi, rfl, rfl, ?_⟩
      rw [e, Bool.true_and] at q
      exact q
    · have e' : decide (lo ≤ i) = false := by simpa using e
      rw [e', Bool.false_and] at q
      exact q
def spRow (K : PySem.W.Frag) : Sp := fun vs H Q _ => ∃ (a : Addr) (xs : List V) (lo hi : Int), vs = [.ref a, .int lo, .int hi] ∧ SqT K H a xs ∧ Q (.bl (decide (lo ≤ xs.length) && decide ((xs.length : Int) ≤ hi))) H
theorem ok_row {f : Addr} {fd : FuncData} (F : Fun K "is_row" "is_row" sis_row f fd) (T : Bi mg) : FnOk P w K mg base CX0 1 f fd ["thing", "least", "most"] (spRow K) := by
  refine F.ok scis_row (fun vs H Q E h => ?_) (fun cdv A outer s H vs Q E hr h => ?_)
  · obtain ⟨a, xs, lo, hi, rfl, _⟩ := h
    rfl
  · obtain ⟨a, xs, lo, hi, rfl, hx, q⟩ := h
    refine ⟨_, (pss_one (ps_ret (pe_and (pe_callB call_isi (by rfl) T.isinstance (by decide +kernel) (pa_cons (pv 0) (pa_cons (pe_bltn (v := .ty "tuple") (u := .type "tuple") (by rfl) T.tuple (by decide +kernel) rfl) pa_nil))) (pe_one (pe_chain op_le op_le (pv 1) (pe_callB call_len_seq (by rfl) T.len PySem.boot_len (pa_cons (pv 0) pa_nil)) (pv 2)))))), ?_⟩
    refine ⟨_, rfl, _, _, _, _, true, rfl, .ty "tuple", ty_sqt hx, kit_ty (by decide +kernel), true, rfl, iteT ⟨_, rfl, _, rfl, a, xs, rfl, .inr hx, lo, _, rfl, rfl, _, rfl, ite2 (fun e => ?_) (fun e => ?_)⟩⟩
    · refine ⟨_, rfl, _, hi, rfl, rfl, ?_⟩
      rw [e, Bool.true_and] at q
      exact q
    · have e' : decide (lo ≤ (xs.length : Int)) = false := by simpa using e
      rw [e', Bool.false_and] at q
      exact q
end

/-! ### fairtrees.machines, on what it takes -/
structure MachAt (K : PySem.W.Frag) (H : Hp) (m : Addr) (steps : List (List Int)) (marks : List (List Str)) : Prop where
  ex : ∃ (s k : Addr) (sa ka : List Addr), SqT K H m [.ref s, .ref k] ∧ SqT K H s (sa.map V.ref) ∧ SqT K H k (ka.map V.ref) ∧
    Each (fun a ns => SqT K H a (ns.map V.int)) sa steps ∧ Each (fun a zs => SqT K H a (zs.map V.str)) ka marks
structure GoodMach (steps : List (List Int)) (marks : List (List Str)) : Prop where
  len : steps.length = marks.length
  lo : 1 ≤ steps.length
  hi : steps.length ≤ 40
  st : ∀ r ∈ steps, RiseI steps.length r
  mr : ∀ r ∈ marks, RiseS r ∧ r.length ≤ 8
theorem MachAt.imm {K : PySem.W.Frag} {H H' : Hp} {m : Addr} {steps : List (List Int)} {marks : List (List Str)} (M : MachAt K H m steps marks) (e : Imm H H') : MachAt K H' m steps marks := by
  obtain ⟨s, k, sa, ka, h1, h2, h3, h4, h5⟩ := M.ex
  exact ⟨s, k, sa, ka, e.sq h1, e.sq h2, e.sq h3, h4.imp fun _ _ h => e.sq h, h5.imp fun _ _ h => e.sq h⟩
structure WishAt (K : PySem.W.Frag) (H : Hp) (t : Addr) (ws : List (Str × Str)) : Prop where
  ex : ∃ wa : List Addr, SqT K H t (wa.map V.ref) ∧ Each (fun a (x : Str × Str) => SqT K H a [.str x.1, .str x.2]) wa ws
theorem WishAt.imm {K : PySem.W.Frag} {H H' : Hp} {t : Addr} {ws : List (Str × Str)} (M : WishAt K H t ws) (e : Imm H H') : WishAt K H' t ws := by
  obtain ⟨wa, h1, h2⟩ := M.ex
  exact ⟨wa, e.sq h1, h2.imp fun _ _ h => e.sq h⟩
theorem ref_get {as : List Addr} {i : Nat} {v : V} (h : (as.map V.ref)[i]? = some v) : ∃ a, as[i]? = some a ∧ v = .ref a := map_get h
theorem dec_str (x y : Str) : decide (V.str x = V.str y) = decide (x = y) := by
  by_cases h : x = y
  · rw [decide_eq_true h, decide_eq_true (by rw [h])]
  · rw [decide_eq_false h, decide_eq_false fun q => h (V.str.inj q)]
theorem dec_int (x y : Int) : decide (V.int x = V.int y) = decide (x = y) := by
  by_cases h : x = y
  · rw [decide_eq_true h, decide_eq_true (by rw [h])]
  · rw [decide_eq_false h, decide_eq_false fun q => h (V.int.inj q)]
/-- the standings that bear a name -/
def bearersOf (marks : List (List Str)) (z : Str) (n : Nat) : List Int := ((List.range n).filter fun j => decide (z = Str.ofString "") || decide (z ∈ marks.getD j [])).map Int.ofNat
theorem bearersOf_yes {marks : List (List Str)} {z : Str} {n : Nat} (h : (decide (z = Str.ofString "") || decide (z ∈ marks.getD n [])) = true) : bearersOf marks z (n + 1) = bearersOf marks z n ++ [(n : Int)] := by
  unfold bearersOf
  rw [List.range_succ, List.filter_append, List.map_append, List.filter_cons, if_pos h] <;> rfl
theorem bearersOf_no {marks : List (List Str)} {z : Str} {n : Nat} (h : (decide (z = Str.ofString "") || decide (z ∈ marks.getD n [])) = false) : bearersOf marks z (n + 1) = bearersOf marks z n := by
  unfold bearersOf
  rw [List.range_succ, List.filter_append, List.map_append, List.filter_cons, if_neg (by rw [h]; decide)]
  show _ ++ [] = _
  rw [List.append_nil]

/-! ### _law_name, _law_names -/
theorem letters_eq : lettersS.cps.toList = List.range' 97 26 := by decide +kernel
theorem letters_at {j : Nat} (hj : j < 26) : lettersS.cps.toList[j]? = some (97 + j) := by
  rw [letters_eq, List.getElem?_range' hj]
  simp
theorem letters_len : lettersS.length ≤ 100000 := by
  show lettersS.cps.size ≤ 100000
  rw [← Array.length_toList, letters_eq]
  simp
theorem letters_mem {j : Nat} (hj : j < 26) : 97 + j ∈ lettersS.cps.toList := List.mem_of_getElem? (letters_at hj)
def Alpha (z : Str) : Prop := ∀ c ∈ z.cps.toList, c ∈ lettersS.cps.toList
theorem app_list (x y : Str) : (x ++ y).cps.toList = x.cps.toList ++ y.cps.toList := by
  show (x.cps ++ y.cps).toList = _
  rw [Array.toList_append]
theorem app_len (x y : Str) : (x ++ y).length = x.length + y.length := by
  show (x ++ y).cps.size = x.cps.size + y.cps.size
  rw [← Array.length_toList, ← Array.length_toList, ← Array.length_toList, app_list, List.length_append]
theorem alpha_app {x : Str} {j : Nat} (h : Alpha x) (hj : j < 26) : Alpha (x ++ ⟨#[97 + j]⟩) := fun c hc => by
  rw [app_list] at hc
  rcases List.mem_append.mp hc with hc | hc
  · exact h c hc
  · have e : c = 97 + j := by simpa using hc
    rw [e]
    exact letters_mem hj
theorem pigeon {α : Type} [BEq α] [LawfulBEq α] : ∀ (l m : List α), l.Nodup → (∀ x ∈ l, x ∈ m) → l.length ≤ m.length
  | [], _, _, _ => Nat.zero_le _
  | x :: r, m, nd, h => by
    obtain ⟨n1, n2⟩ := List.nodup_cons.mp nd
    have hx := h x List.mem_cons_self
    have := pigeon r (m.erase x) n2 fun y hy => (List.mem_erase_of_ne (fun q => n1 (by rw [← q]; exact hy))).mpr (h y (List.mem_cons_of_mem _ hy))
    rw [List.length_erase_of_mem hx] at this
    have : 0 < m.length := List.length_pos_of_mem hx
    rw [List.length_cons]
    omega
/-- what the loop tries at its k-th turn -/
def cand (nm : Str) (last k : Nat) : Str := nm ++ ⟨#[97 + (last + k) % 26]⟩
theorem cand_inj {nm : Str} {last j k : Nat} (hj : j < 26) (hk : k < 26) (h : cand nm last j = cand nm last k) : j = k := by
  have e : (cand nm last j).cps.toList = (cand nm last k).cps.toList := by rw [h]
  unfold cand at e
  rw [app_list, app_list] at e
  have e2 := List.append_cancel_left e
  simp at e2
  omega
theorem cand_some {nm : Str} {last : Nat} {words taken : List Str} (hw : words.length + taken.length < 26) (h : ∀ j, j < 26 → cand nm last j ∈ words ∨ cand nm last j ∈ taken) : False := by
  have nd : ((List.range 26).map (cand nm last)).Nodup := by
    refine List.pairwise_map.mpr ((List.pairwise_lt_range (n := 26)).imp_of_mem fun ha hb hab e => ?_)
    have := cand_inj (List.mem_range.mp ha) (List.mem_range.mp hb) e
    omega
  have := pigeon _ (words ++ taken) nd fun x hx => by
    obtain ⟨j, hj, rfl⟩ := List.mem_map.mp hx
    exact List.mem_append.mpr (h j (List.mem_range.mp hj))
  rw [List.length_map, List.length_range, List.length_append] at this
  omega
abbrev s_law_name : Stmt := topS 22
theorem sc_law_name : FnScope ["_law_pool_here", "_law_start", "_law_taken", "_law_letters", "_law_name_here", "_law_k", "_law_last", "_law_words", "_law_found"] ["_law_pool_here", "_law_start", "_law_taken"] (defScope s_law_name) := ⟨rfl, rfl, rfl, by decide +kernel, rfl, by decide +kernel, by decide +kernel⟩
abbrev s_law_names : Stmt := topS 23
theorem sc_law_names : FnScope ["_law_pool_here", "_law_many", "_law_letters", "_law_start", "_law_k", "_law_names_here"] ["_law_pool_here", "_law_many"] (defScope s_law_names) := ⟨rfl, rfl, rfl, by decide +kernel, rfl, by decide +kernel, by decide +kernel⟩
section
variable {P : Program} {w : World} {K : PySem.W.Frag} {mg : Str → Option Value} {base : Heap}
def spLName : Sp := fun vs H Q _ => ∃ (a : PA) (c : Nat) (start : Str) (t : Addr) (taken : List Str), vs = [.ref a.p, .str start, .ref t] ∧ Pool H a c ∧ c < 900000 ∧ H t = some (.lst (taken.map V.str)) ∧ Off a t ∧ Alpha start ∧ start.length ≤ 4 ∧ taken.length ≤ 12 ∧
  ∀ H' z, GoodName z → z ∉ taken → Pool H' a (c + 5) → Kp a H H' → Q (.str z) H'
theorem ok_lname {f : Addr} {fd : FuncData} (F : Fun K "_law_name" "_law_name" s_law_name f fd) (T : Bi mg) (c_law_draw : Cal P w K mg base 1 "_law_draw" ["_law_pool_here", "_law_many"] spDraw) : FnOk P w K mg base CX0 2 f fd ["_law_pool_here", "_law_start", "_law_taken"] spLName := by
  refine F.ok sc_law_name (fun vs H Q E h => ?_) (fun cdv A outer s H vs Q E hr h => ?_)
  · obtain ⟨a, c, start, t, taken, rfl, _⟩ := h
    rfl
  · obtain ⟨a, c, start, t, taken, rfl, PP, hc, ht, ot, al, sl, tl, q⟩ := h
    refine ⟨_, (pss_cons (ps_set (i := 3) sc_law_name.nd rfl (.inl rfl) pe_str)
      (pss_cons (ps_set (i := 4) sc_law_name.nd rfl (.inl rfl) (pv 1))
      (pss_cons (ps_for PassesOwn.never rfl (pi_range1 (by rfl) T.range (pa_cons (pe_call c_law_draw.G hr (by rfl) c_law_draw.g c_law_draw.kp c_law_draw.b .nil pass0 (pa_cons (pv 0) (pa_cons pe_int pa_nil))) pa_nil)) (pg_name (i := 5) sc_law_name.nd rfl (.inl rfl))
        (pss_one (ps_set (i := 4) sc_law_name.nd rfl (.inl rfl) (pe_op op_add_str (pv 4) (pe_ix ix_str (pv 3) (pe_call c_law_draw.G hr (by rfl) c_law_draw.g c_law_draw.kp c_law_draw.b .nil pass0 (pa_cons (pv 0) (pa_cons pe_int pa_nil))) (fun _ _ => rfl))))))
      (pss_cons (ps_set (i := 6) sc_law_name.nd rfl (.inl rfl) (pe_call c_law_draw.G hr (by rfl) c_law_draw.g c_law_draw.kp c_law_draw.b .nil pass0 (pa_cons (pv 0) (pa_cons pe_int pa_nil))))
      (pss_cons (ps_set (i := 7) sc_law_name.nd rfl (.inl rfl) (pe_lst (pa_cons pe_str (pa_cons pe_str (pa_cons pe_str (pa_cons pe_str (pa_cons pe_str (pa_cons pe_str (pa_cons pe_str (pa_cons pe_str (pa_cons pe_str (pa_cons pe_str (pa_cons pe_str (pa_cons pe_str (pa_cons pe_str pa_nil)))))))))))))))
      (pss_cons (ps_for PassesOwn.never rfl (pi_range1 (by rfl) T.range (pa_cons pe_int pa_nil)) (pg_name (i := 5) sc_law_name.nd rfl (.inl rfl))
        (pss_cons (ps_set (i := 8) sc_law_name.nd rfl (.inl rfl) (pe_op op_add_str (pv 4) (pe_ix ix_str (pv 3) (pe_op op_mod (pe_op op_add (pv 6) (pv 5)) pe_int) (fun _ _ => rfl))))
        (pss_one (ps_if (PW.pt (pw_and (pt_cmpR op_notIn_seq (pv 8) (pv 7) (by rfl)) (pw_and1 (pt_cmpR op_notIn_seq (pv 8) (pv 2) (by rfl)))))
          (pss_one (ps_ret (pv 8)))
          pss_nil))))
      (pss_one (ps_ret (pe_op op_add_str (pv 4) pe_str))))))))), ?_⟩
    -- for k in range(draw(pool, 4))
    refine ⟨_, rfl, _, rfl, a, c, 4, rfl, PP, by omega, by decide, by decide, fun H1 r r0 r1 P1 k1 => ⟨r, rfl, by omega, by omega, for_range (lo := 0) (n := r.toNat) (fun i σ H' => ∃ nm y,
      σ = [some (.ref a.p), some (.str start), some (.ref t), some (.str lettersS), some (.str nm), y, none, none, none] ∧ Alpha nm ∧ nm.length = start.length + i ∧ Pool H' a (c + 1 + i) ∧ Kp a H H')
      ⟨start, none, rfl, al, rfl, P1, k1⟩ ?_ ?_⟩⟩
    · rintro i σ H2 hi ⟨nm, y, rfl, an, ln, P2, k2⟩
      refine ⟨_, rfl, _, rfl, _, rfl, a, _, 26, rfl, P2, by omega, by decide, by decide, fun H3 r' r0' r1' P3 k3 => ?_⟩
      obtain ⟨j, rfl⟩ : ∃ j : Nat, r' = (j : Int) := ⟨r'.toNat, by omega⟩
      have hj : j < 26 := by omega
      refine ⟨lettersS, _, 97 + j, rfl, rfl, szOk letters_len, atI_nat (letters_at hj), nm, _, rfl, rfl, ?_, ?_⟩
      · show nm.length + 1 ≤ sizeLine
        exact szOk (by omega)
      · refine ⟨nm ++ ⟨#[97 + j]⟩, _, rfl, alpha_app an hj, ?_, ?_, k2.trans k3⟩
        · rw [app_len, ln]
          rfl
        · exact P3
    · rintro σ H2 ⟨nm, y, rfl, an, ln, P2, k2⟩
      -- last = draw(pool, 26); words
      refine ⟨_, rfl, a, _, 26, rfl, P2, by omega, by decide, by decide, fun H3 r' r0' r1' P3 k3 => ?_⟩
      obtain ⟨last, rfl⟩ : ∃ j : Nat, r' = (j : Int) := ⟨r'.toNat, by omega⟩
      refine ⟨by show 13 ≤ sizeLine; decide, fun l hl => ?_⟩
      have hl2 : upd H3 l (.lst (wordsL.map V.str)) l = some (.lst (wordsL.map V.str)) := upd_same
      have ht3 : H3 t = some (.lst (taken.map V.str)) := (k2.trans k3) _ _ ht ot
      have ht4 : ∀ o, upd H3 l o t = some (.lst (taken.map V.str)) := fun o => by
        rw [upd_ne (ne_of_none ht3 hl)]
        exact ht3
      refine ⟨26, rfl, by decide, by decide, for_range (lo := 0) (n := 26) (fun i σ H' => ∃ y z,
        σ = [some (.ref a.p), some (.str start), some (.ref t), some (.str lettersS), some (.str nm), y, some (.int last), some (.ref l), z] ∧ H' = upd H3 l (.lst (wordsL.map V.str)) ∧ ∀ j, j < i → cand nm last j ∈ wordsL ∨ cand nm last j ∈ taken)
        ⟨_, _, rfl, rfl, fun j hj => absurd hj (Nat.not_lt_zero _)⟩ ?_ ?_⟩
      · rintro i σ H' hi ⟨y', z, rfl, rfl, all⟩
        have hm : (last + i) % 26 < 26 := Nat.mod_lt _ (by decide)
        have em : ((last : Int) + (0 + (i : Int))) % 26 = (((last + i) % 26 : Nat) : Int) := by omega
        refine ⟨_, rfl, _, rfl, _, rfl, _, rfl, _, _, rfl, rfl, _, _, rfl, rfl, (by show (0 : Int) < _; decide), lettersS, _, 97 + (last + i) % 26, rfl, rfl, szOk letters_len, (by
          show atI _ (((last : Int) + (0 + (i : Int))) % 26) = _
          rw [em]
          exact atI_nat (letters_at hm)), nm, _, rfl, rfl, ?_, ?_⟩
        · show nm.length + 1 ≤ sizeLine
          exact szOk (by omega)
        · refine ⟨_, rfl, _, rfl, l, _, rfl, .inl (SqL.of hl2), rfl, flat_str _, _, rfl, ?_⟩
          rw [inV_str]
          refine ite2 (fun e => ?_) (fun e => ?_)
          · refine ⟨_, rfl, _, rfl, t, _, rfl, .inl (SqL.of (ht4 _)), rfl, flat_str _, _, rfl, ?_⟩
            rw [inV_str]
            refine ite2 (fun e2 => ?_) (fun e2 => ?_)
            · have n1 : cand nm last i ∉ wordsL := notdec e
              have n2 : cand nm last i ∉ taken := notdec e2
              have lc : (cand nm last i).length = nm.length + 1 := by
                unfold cand
                rw [app_len]
                rfl
              refine ⟨_, rfl, q _ (cand nm last i) ⟨by omega, by omega, n1, alpha_app an hm⟩ n2 ((P3.upd (P3.off hl)).mono (by omega)) ((k2.trans k3).mut ((k2.trans k3).free hl (P3.off hl)))⟩
            · refine ⟨_, _, rfl, rfl, fun j hj => ?_⟩
              by_cases h : j < i
              · exact all j h
              · have e3 : j = i := by omega
                rw [e3]
                exact .inr (dec_of e2)
          · refine iteF ⟨_, _, rfl, rfl, fun j hj => ?_⟩
            by_cases h : j < i
            · exact all j h
            · have e3 : j = i := by omega
              rw [e3]
              exact .inl (dec_of e)
      · rintro σ H' ⟨y', z, rfl, rfl, all⟩
        exact (cand_some (words := wordsL) (by show 13 + taken.length < 26; omega) all).elim
def spLNames : Sp := fun vs H Q _ => ∃ (a : PA) (c : Nat) (n : Nat), vs = [.ref a.p, .int n] ∧ Pool H a c ∧ c < 800000 ∧ n ≤ 12 ∧
  ∀ (H' : Hp) (l : Addr) (zs : List Str), Pool H' a (c + 5 + n * 5) → Kp a H H' → H' l = some (.lst (zs.map V.str)) → Off a l → zs.Nodup → (∀ z ∈ zs, GoodName z) → zs.length = n → Q (.ref l) H'
theorem ok_lnames {f : Addr} {fd : FuncData} (F : Fun K "_law_names" "_law_names" s_law_names f fd) (T : Bi mg) (c_law_draw : Cal P w K mg base 1 "_law_draw" ["_law_pool_here", "_law_many"] spDraw) (c_law_name : Cal P w K mg base 2 "_law_name" ["_law_pool_here", "_law_start", "_law_taken"] spLName) :
    FnOk P w K mg base CX0 3 f fd ["_law_pool_here", "_law_many"] spLNames := by
  refine F.ok sc_law_names (fun vs H Q E h => ?_) (fun cdv A outer s H vs Q E hr h => ?_)
  · obtain ⟨a, c, n, rfl, _⟩ := h
    rfl
  · obtain ⟨a, c, n, rfl, PP, hc, hn, q⟩ := h
    refine ⟨_, (pss_cons (ps_set (i := 2) sc_law_names.nd rfl (.inl rfl) pe_str)
      (pss_cons (ps_set (i := 3) sc_law_names.nd rfl (.inl rfl) pe_str)
      (pss_cons (ps_for PassesOwn.never rfl (pi_range1 (by rfl) T.range (pa_cons (pe_ix ix_list (pe_lst (pa_cons pe_int (pa_cons pe_int (pa_cons pe_int (pa_cons pe_int pa_nil))))) (pe_call c_law_draw.G (hr.mono (by decide)) (by rfl) c_law_draw.g c_law_draw.kp c_law_draw.b .nil pass0 (pa_cons (pv 0) (pa_cons pe_int pa_nil))) (fun _ _ => rfl)) pa_nil)) (pg_name (i := 4) sc_law_names.nd rfl (.inl rfl))
        (pss_one (ps_set (i := 3) sc_law_names.nd rfl (.inl rfl) (pe_op op_add_str (pv 3) (pe_ix ix_str (pv 2) (pe_call c_law_draw.G (hr.mono (by decide)) (by rfl) c_law_draw.g c_law_draw.kp c_law_draw.b .nil pass0 (pa_cons (pv 0) (pa_cons pe_int pa_nil))) (fun _ _ => rfl))))))
      (pss_cons (ps_set (i := 5) sc_law_names.nd rfl (.inl rfl) (pe_lst pa_nil))
      (pss_cons (ps_for PassesOwn.never rfl (pi_range1 (by rfl) T.range (pa_cons (pv 1) pa_nil)) (pg_name (i := 4) sc_law_names.nd rfl (.inl rfl))
        (pss_one (ps_expr (pe_bm PySem.F.plainAttrs_list PySem.F.slot_list_append PySem.F.type_list_append mt_append (pv 5) (pa_cons (pe_call c_law_name.G hr (by rfl) c_law_name.g c_law_name.kp c_law_name.b .nil pass0 (pa_cons (pv 0) (pa_cons (pv 3) (pa_cons (pv 5) pa_nil)))) pa_nil)))))
      (pss_one (ps_ret (pv 5)))))))), ?_⟩
    refine ⟨by show 4 ≤ sizeLine; decide, fun d hd => ⟨_, rfl, a, c, 4, rfl, PP.upd (PP.off hd), by omega, by decide, by decide, fun H1 r r0 r1 P1 k1 => ?_⟩⟩
    have k1' : Kp a H H1 := (skp (same_upd hd)).trans k1
    have hd1 : H1 d = some (.lst [.int 0, .int 0, .int 1, .int 4]) := k1 _ _ upd_same (PP.off hd)
    obtain ⟨v, v0, v1, hv⟩ : ∃ v : Int, 0 ≤ v ∧ v ≤ 4 ∧ atI [V.int 0, .int 0, .int 1, .int 4] r = some (.int v) := by
      have : r = 0 ∨ r = 1 ∨ r = 2 ∨ r = 3 := by omega
      rcases this with rfl | rfl | rfl | rfl
      · exact ⟨0, by decide, by decide, rfl⟩
      · exact ⟨0, by decide, by decide, rfl⟩
      · exact ⟨1, by decide, by decide, rfl⟩
      · exact ⟨4, by decide, by decide, rfl⟩
    refine ⟨d, _, r, .int v, rfl, rfl, SqL.of hd1, hv, v, rfl, by omega, by omega, for_range (lo := 0) (n := v.toNat) (fun i σ H' => ∃ nm y,
      σ = [some (.ref a.p), some (.int n), some (.str lettersS), some (.str nm), y, none] ∧ Alpha nm ∧ nm.length = i ∧ Pool H' a (c + 1 + i) ∧ Kp a H H')
      ⟨Str.ofString "", none, rfl, (fun c hc => absurd hc (by rw [show (Str.ofString "").cps.toList = [] by decide +kernel]; exact List.not_mem_nil)), (by decide +kernel), P1, k1'⟩ ?_ ?_⟩
    · rintro i σ H2 hi ⟨nm, y, rfl, an, ln, P2, k2⟩
      refine ⟨_, rfl, _, rfl, _, rfl, a, _, 26, rfl, P2, by omega, by decide, by decide, fun H3 r' r0' r1' P3 k3 => ?_⟩
      obtain ⟨j, rfl⟩ : ∃ j : Nat, r' = (j : Int) := ⟨r'.toNat, by omega⟩
      have hj : j < 26 := by omega
      refine ⟨lettersS, _, 97 + j, rfl, rfl, szOk letters_len, atI_nat (letters_at hj), nm, _, rfl, rfl, ?_, ?_⟩
      · show nm.length + 1 ≤ sizeLine
        exact szOk (by omega)
      · refine ⟨nm ++ ⟨#[97 + j]⟩, _, rfl, alpha_app an hj, ?_, P3, k2.trans k3⟩
        rw [app_len, ln]
        rfl
    · rintro σ H2 ⟨nm, y, rfl, an, ln, P2, k2⟩
      refine ⟨Nat.zero_le _, fun l hl => ?_⟩
      have ol := P2.off hl
      have hl0 := k2.free hl ol
      refine ⟨_, rfl, n, rfl, by omega, by omega, for_range (lo := 0) (n := (n : Int).toNat) (fun i σ H' => ∃ (zs : List Str) (y : Option V),
        σ = [some (.ref a.p), some (.int n), some (.str lettersS), some (.str nm), y, some (.ref l)] ∧ zs.length = i ∧ zs.Nodup ∧ (∀ z ∈ zs, GoodName z) ∧ H' l = some (.lst (zs.map V.str)) ∧ Pool H' a (c + 5 + i * 5) ∧ Kp a H H')
        ⟨[], _, rfl, rfl, List.nodup_nil, (fun z hz => absurd hz List.not_mem_nil), upd_same, ((P2.mono (by omega)).upd ol), k2.mut hl0⟩ ?_ ?_⟩
      · rintro i σ H3 hi ⟨zs, y', rfl, lz, nz, gz, hz, P3, k3⟩
        refine ⟨_, rfl, .inl ⟨rfl, _, SqL.of hz⟩, _, rfl, _, rfl, _, rfl, a, _, nm, l, zs, rfl, P3, by omega, hz, ol, an, by omega, by omega, fun H4 z g4 n4 P4 k4 => ?_⟩
        have hz4 := k4 _ _ hz ol
        refine ⟨l, _, _, rfl, rfl, hz4, szLt (by rw [List.length_map]; omega), zs ++ [z], _, rfl, ?_, ?_, ?_, ?_, ?_, ?_⟩
        · rw [List.length_append, lz]
          rfl
        · rw [List.nodup_append]
          refine ⟨nz, by simp, fun x hx y hy e => ?_⟩
          have : y = z := by simpa using hy
          rw [this] at e
          exact n4 (by rw [← e]; exact hx)
        · intro x hx
          rcases List.mem_append.mp hx with hx | hx
          · exact gz x hx
          · have : x = z := by simpa using hx
            rw [this]
            exact g4
        · rw [upd_same, List.map_append]
          rfl
        · rw [show c + 5 + (i + 1) * 5 = c + 5 + i * 5 + 5 by omega]
          exact P4.upd ol
        · exact (k3.trans k4).mut hl0
      · rintro σ H3 ⟨zs, y', rfl, lz, nz, gz, hz, P3, k3⟩
        rw [Int.toNat_natCast] at lz P3
        exact ⟨_, rfl, q _ l zs P3 k3 hz ol nz gz lz⟩
end

/-! ### comprehensions that draw over a list, or lay objects -/
section
variable {K : PySem.W.Frag}
theorem lc_listP {a : Addr} {xs : List V} {j : Nat} {tt : TT} {te : TE} {vs : List Nat} {σ : L2.St} {H1 : Hp} {D : Addr} {Qd : Hp → Prop} {A : PA} {c0 : Nat} (k : Nat) (ok : Nat → List V → Prop)
    (P0 : Pool H1 A c0) (hx : H1 a = some (.lst xs)) (ox : Off A a) (hD : H1 D = none) (hn : xs.length ≤ 100000) (h0 : ok 0 []) (hw : ∀ x, wipe ((wipe σ vs).set j (some x)) vs = wipe σ vs)
    (turn : ∀ (i : Nat) (x : V) (H : Hp) (acc : List V), xs[i]? = some x → Pool H A (c0 + i * k) → Kp A H1 H → ok i acc → acc.length ≤ i → ∀ (N1 : V → Hp → Prop) (N2 : Hp → Prop),
      (∀ y H', Pool H' A (c0 + i * k + k) → Kp A H H' → ok (i + 1) (acc ++ [y]) → N1 y H') → (∀ H', Pool H' A (c0 + i * k + k) → Kp A H H' → ok (i + 1) acc → N2 H') →
      tt ((wipe σ vs).set j (some x)) H fun b H3 => if b = true then te ((wipe σ vs).set j (some x)) H3 N1 else N2 H3)
    (done : ∀ (H : Hp) (acc : List V), Pool H A (c0 + xs.length * k) → Kp A H1 H → H D = some (.lst acc) → acc.length ≤ xs.length → ok xs.length acc → Off A D → Qd H) :
    ∃ W : Nat → Nat → Hp → Prop, (∃ m, W 0 m (upd H1 D (.lst []))) ∧ ∀ i m H, W i m H →
      ((Itl K a).stop i H ∧ Qd H) ∨ ((Itl K a).go i H ∧ ∃ Nx : Hp → Prop, (∀ H', Nx H' → ∃ m', m' < m ∧ W (i + 1) m' H') ∧ ∀ x H', (Itl K a).yld i H x H' → (gName j) x (wipe σ vs) H' fun σ2 H2 => wipe σ2 vs = wipe σ vs ∧ tt σ2 H2 fun b H3 =>
        if b = true then te σ2 H3 fun y H4 => ∃ acc, H4 D = some (.lst acc) ∧ acc.length < sizeLine ∧ Nx (upd H4 D (.lst (acc ++ [y]))) else Nx H3) := by
  have oD : Off A D := P0.off hD
  refine lc_list (xs := xs) (fun i H => ∃ acc, Pool H A (c0 + i * k) ∧ Kp A H1 H ∧ H D = some (.lst acc) ∧ acc.length ≤ i ∧ ok i acc) ⟨[], ?_, skp (same_upd hD), upd_same, Nat.le_refl _, h0⟩ (fun i H _ p => ?_) (fun i x H hi p => ?_) (fun H p => ?_)
  · rw [Nat.zero_mul]
    exact P0.upd oD
  · obtain ⟨acc, p1, p2, _⟩ := p
    exact SqL.of (p2 _ _ hx ox)
  · obtain ⟨acc, p1, p2, p3, p4, p5⟩ := p
    have hil : i < xs.length := (List.getElem?_eq_some_iff.mp hi).1
    refine ⟨hw _, turn i x H acc hi p1 p2 p5 p4 _ _ (fun y H' q1 q2 q3 => ⟨acc, q2 _ _ p3 oD, szLt (by omega), acc ++ [y], ?_, ?_, upd_same, ?_, q3⟩) (fun H' q1 q2 q3 => ⟨acc, ?_, p2.trans q2, q2 _ _ p3 oD, by omega, q3⟩)⟩
    · rw [Nat.succ_mul, ← Nat.add_assoc]
      exact q1.upd oD
    · exact Kp.mut (p2.trans q2) hD
    · rw [List.length_append]
      show acc.length + 1 ≤ i + 1
      omega
    · rw [Nat.succ_mul, ← Nat.add_assoc]
      exact q1
  · obtain ⟨acc, p1, p2, p3, p4, p5⟩ := p
    exact done H acc p1 p2 p3 p4 p5 oD
theorem lc_rangeH {lo : Int} {n j : Nat} {tt : TT} {te : TE} {vs : List Nat} {σ : L2.St} {H1 : Hp} {D : Addr} {Qd : Hp → Prop} (ok : Nat → Hp → List V → Prop) (st : ∀ i H H' acc, Imm H H' → ok i H acc → ok i H' acc)
    (hD : H1 D = none) (hn : n ≤ 100000) (h0 : ∀ H, ok 0 H []) (hw : ∀ x, wipe ((wipe σ vs).set j (some x)) vs = wipe σ vs)
    (turn : ∀ (i : Nat) (H : Hp) (acc : List V), i < n → Same H1 H → ok i H acc → acc.length ≤ i → ∀ (N1 : V → Hp → Prop) (N2 : Hp → Prop),
      (∀ y H', Same H H' → ok (i + 1) H' (acc ++ [y]) → N1 y H') → (∀ H', Same H H' → ok (i + 1) H' acc → N2 H') →
      tt ((wipe σ vs).set j (some (.int (lo + i)))) H fun b H3 => if b = true then te ((wipe σ vs).set j (some (.int (lo + i)))) H3 N1 else N2 H3)
    (done : ∀ (H : Hp) (acc : List V), Same H1 H → H D = some (.lst acc) → acc.length ≤ n → ok n H acc → Qd H) :
    ∃ W : Nat → Nat → Hp → Prop, (∃ m, W 0 m (upd H1 D (.lst []))) ∧ ∀ i m H, W i m H →
      ((Itr lo n).stop i H ∧ Qd H) ∨ ((Itr lo n).go i H ∧ ∃ Nx : Hp → Prop, (∀ H', Nx H' → ∃ m', m' < m ∧ W (i + 1) m' H') ∧ ∀ x H', (Itr lo n).yld i H x H' → (gName j) x (wipe σ vs) H' fun σ2 H2 => wipe σ2 vs = wipe σ vs ∧ tt σ2 H2 fun b H3 =>
        if b = true then te σ2 H3 fun y H4 => ∃ acc, H4 D = some (.lst acc) ∧ acc.length < sizeLine ∧ Nx (upd H4 D (.lst (acc ++ [y]))) else Nx H3) := by
  refine lc_range (lo := lo) (n := n) (fun i H => ∃ acc, Same H1 H ∧ H D = some (.lst acc) ∧ acc.length ≤ i ∧ ok i H acc) ⟨[], same_upd hD, upd_same, Nat.le_refl _, h0 _⟩ (fun i H hi p => ?_) (fun H p => ?_)
  · obtain ⟨acc, p2, p3, p4, p5⟩ := p
    refine ⟨hw _, turn i H acc hi p2 p5 p4 _ _ (fun y H' q2 q3 => ⟨acc, q2 _ _ p3, szLt (by omega), acc ++ [y], smut (p2.trans q2) hD, upd_same, ?_, st _ _ _ _ (Imm.list (q2 _ _ p3)) q3⟩) (fun H' q2 q3 => ⟨acc, p2.trans q2, q2 _ _ p3, by omega, q3⟩)⟩
    rw [List.length_append]
    show acc.length + 1 ≤ i + 1
    omega
  · obtain ⟨acc, p2, p3, p4, p5⟩ := p
    exact done H acc p2 p3 p4 p5
end
section
variable {X : Cx}
theorem un65 {k : Nat} {A : Around} (r : Room k A) : A.units + 65 < cLine := by
  have := r.un
  omega
theorem inD (K : PySem.W.Frag) (hu : X.A.units + 65 < cLine) (h : X.K = K := by rfl) : OpR X (compareOp .In) (rInD K) := by
  subst h
  exact op_inD hu
end

/-! ### sorted names rise -/
theorem nlt_trans {a b c : List Nat} (h1 : ¬ b < a) (h2 : ¬ c < b) : ¬ c < a := by
  rw [List.not_lt] at *
  exact List.le_trans h1 h2
theorem lt_of {a b : List Nat} (h : ¬ b < a) (n : a ≠ b) : a < b := by
  rw [List.not_lt] at h
  rcases List.le_iff_lt_or_eq.mp h with h | h
  · exact h
  · exact absurd h n
theorem rising_pw : ∀ (l : List Str) (p : Str), risingS p l = true → (p :: l).Pairwise (fun x y => ¬ y.cps.toList < x.cps.toList)
  | [], p, _ => List.pairwise_singleton _ _
  | x :: r, p, h => by
    have h' : (!Spec.ltCps x.cps.toList p.cps.toList && risingS x r) = true := h
    rw [Bool.and_eq_true, ltCps_eq] at h'
    have ih := rising_pw r x h'.2
    refine List.pairwise_cons.mpr ⟨fun y hy => ?_, ih⟩
    rcases List.mem_cons.mp hy with rfl | hy
    · exact notdec h'.1
    · exact nlt_trans (notdec h'.1) ((List.pairwise_cons.mp ih).1 y hy)
theorem sorted_rise {ys : List Str} (h : sortedS ys = true) (nd : ys.Nodup) (g : ∀ z ∈ ys, GoodName z) : RiseS ys := by
  refine ⟨?_, g⟩
  have pw : ys.Pairwise (fun x y => ¬ y.cps.toList < x.cps.toList) := by
    cases ys with
    | nil => exact List.Pairwise.nil
    | cons x r => exact rising_pw r x h
  exact (pw.and nd).imp fun {x y} h => lt_of h.1 fun e => h.2 (Str.ext' (Array.toList_inj.mp e))

/-! ### _law_machine -/
abbrev s_law_machine : Stmt := topS 24
theorem sc_law_machine : FnScope ["_law_pool_here", "_law_names_here", "_law_most", "_law_many", "_law_dense", "_law_steps", "_law_marks", "_law_k", "_law_to", "_law_name_here"] ["_law_pool_here", "_law_names_here", "_law_most"] (defScope s_law_machine) := ⟨rfl, rfl, rfl, by decide +kernel, rfl, by decide +kernel, by decide +kernel⟩
section
variable {P : Program} {w : World} {K : PySem.W.Frag} {mg : Str → Option Value} {base : Heap}
def spLMach (K : PySem.W.Frag) : Sp := fun vs H Q _ => ∃ (A : PA) (c : Nat) (l : Addr) (zs : List Str) (most : Nat), vs = [.ref A.p, .ref l, .int most] ∧ Pool H A c ∧ c < 700000 ∧ H l = some (.lst (zs.map V.str)) ∧ Off A l ∧ zs.Nodup ∧ (∀ z ∈ zs, GoodName z) ∧ zs.length ≤ 8 ∧ 1 ≤ most ∧ most ≤ 8 ∧
  ∀ (H' : Hp) (m : Addr) (steps : List (List Int)) (marks : List (List Str)), Pool H' A (c + 2 + most * 20) → Kp A H H' → MachAt K H' m steps marks → GoodMach steps marks → steps.length ≤ most → Q (.ref m) H'
theorem ok_lmach {f : Addr} {fd : FuncData} (F : Fun K "_law_machine" "_law_machine" s_law_machine f fd) (T : Bi mg) (c_law_draw : Cal P w K mg base 1 "_law_draw" ["_law_pool_here", "_law_many"] spDraw) : FnOk P w K mg base CX0 2 f fd ["_law_pool_here", "_law_names_here", "_law_most"] (spLMach K) := by
  refine F.ok sc_law_machine (fun vs H Q E h => ?_) (fun cdv A outer s H vs Q E hr h => ?_)
  · obtain ⟨A, c, l, zs, most, rfl, _⟩ := h
    rfl
  · obtain ⟨PL, c, l, zs, most, rfl, P0, hc, hl, ol, nz, gz, lz, m0, m1, q⟩ := h
    refine ⟨_, (pss_cons (ps_set (i := 3) sc_law_machine.nd rfl (.inl rfl) (pe_op op_add pe_int (pe_call c_law_draw.G hr (by rfl) c_law_draw.g c_law_draw.kp c_law_draw.b .nil pass0 (pa_cons (pv 0) (pa_cons (pv 2) pa_nil)))))
      (pss_cons (ps_set (i := 4) sc_law_machine.nd rfl (.inr rfl) (pe_op op_add pe_int (pe_call c_law_draw.G hr (by rfl) c_law_draw.g c_law_draw.kp c_law_draw.b .nil pass0 (pa_cons (pv 0) (pa_cons pe_int pa_nil)))))
      (pss_cons (ps_set (i := 5) sc_law_machine.nd rfl (.inl rfl) (pe_lst pa_nil))
      (pss_cons (ps_set (i := 6) sc_law_machine.nd rfl (.inl rfl) (pe_lst pa_nil))
      (pss_cons (ps_for PassesOwn.never rfl (pi_range1 (by rfl) T.range (pa_cons (pv 3) pa_nil)) (pg_name (i := 7) sc_law_machine.nd rfl (.inl rfl))
        (pss_cons (ps_expr (pe_bm PySem.F.plainAttrs_list PySem.F.slot_list_append PySem.F.type_list_append mt_append (pv 5) (pa_cons (pe_callTy call_tuple_of (by rfl) T.tuple (by decide +kernel) (pa_cons (pe_lc (own := [("_law_to", 8)]) (g := gName 8) rfl sc_law_machine.nd (pi_range1 (by rfl) T.range (pa_cons (pv 3) pa_nil)) (blkOk_by (own := [("_law_to", 8)]) (N := ["_law_pool_here", "_law_names_here", "_law_most", "_law_many", "_law_dense", "_law_steps", "_law_marks", "_law_k", "_law_to", "_law_name_here"]) (sc := defScope s_law_machine) (by decide +kernel)) (fun _ _ _ _ _ => (pg_name (i := 8) sc_law_machine.nd rfl (.inl rfl))) (fun _ _ _ _ _ => (pts_one (pt_cmpR op_lt (pe_call c_law_draw.G hr (by rfl) c_law_draw.g c_law_draw.kp c_law_draw.b .nil pass0 (pa_cons (pv 0) (pa_cons pe_int pa_nil))) (pv 4) (nomark _)))) (fun _ _ _ _ _ => (pv 8))) pa_nil)) pa_nil)))
        (pss_one (ps_expr (pe_bm PySem.F.plainAttrs_list PySem.F.slot_list_append PySem.F.type_list_append mt_append (pv 6) (pa_cons (pe_callTy call_tuple_of (by rfl) T.tuple (by decide +kernel) (pa_cons (pe_callB cr_sortedS (by rfl) T.sorted (by decide +kernel) (pa_cons (pe_lc (own := [("_law_name_here", 9)]) (g := gName 9) rfl sc_law_machine.nd (pi_list (pv 1)) (blkOk_by (own := [("_law_name_here", 9)]) (N := ["_law_pool_here", "_law_names_here", "_law_most", "_law_many", "_law_dense", "_law_steps", "_law_marks", "_law_k", "_law_to", "_law_name_here"]) (sc := defScope s_law_machine) (by decide +kernel)) (fun _ _ _ _ _ => (pg_name (i := 9) sc_law_machine.nd rfl (.inl rfl))) (fun _ _ _ _ _ => (pts_one (pt_cmpR op_eq (pe_call c_law_draw.G hr (by rfl) c_law_draw.g c_law_draw.kp c_law_draw.b .nil pass0 (pa_cons (pv 0) (pa_cons pe_int pa_nil))) pe_int (nomark _)))) (fun _ _ _ _ _ => (pv 9))) pa_nil)) pa_nil)) pa_nil))))))
      (pss_one (ps_ret (pe_tup (pa_cons (pe_callTy call_tuple_of (by rfl) T.tuple (by decide +kernel) (pa_cons (pv 5) pa_nil)) (pa_cons (pe_callTy call_tuple_of (by rfl) T.tuple (by decide +kernel) (pa_cons (pv 6) pa_nil)) pa_nil)))))))))), ?_⟩
    refine ⟨_, rfl, _, rfl, PL, c, _, rfl, P0, by omega, by omega, by omega, fun H1 x x0 x1 P1 K1 => ?_⟩
    obtain ⟨x, rfl⟩ : ∃ j : Nat, x = (j : Int) := ⟨x.toNat, by omega⟩
    refine ⟨_, _, rfl, rfl, _, rfl, PL, _, 4, rfl, P1, by omega, by decide, by decide, fun H2 y _ _ P2 K2 => ⟨_, _, rfl, rfl, Nat.zero_le _, fun ls hls => ⟨Nat.zero_le _, fun lm hlm => ?_⟩⟩⟩
    have K02 := K1.trans K2
    have os := P2.off hls
    have hls0 := K02.free hls os
    have P3 := P2.upd (o := .lst []) os
    have om := P3.off hlm
    have nsm : ls ≠ lm := fun e => by
      rw [← e, upd_same] at hlm
      cases hlm
    have hlm' : H2 lm = none := by
      rw [← hlm, upd_ne nsm.symm]
    have hlm0 := K02.free hlm' om
    refine ⟨_, rfl, 1 + (x : Int), rfl, by omega, by omega, for_range (lo := 0) (n := (1 + (x : Int)).toNat) (fun i σ H' => ∃ (sa ka : List Addr) (steps : List (List Int)) (marks : List (List Str)) (y7 : Option V),
      σ = [some (.ref PL.p), some (.ref l), some (.int most), some (.int (1 + (x : Int))), some (.int (1 + y)), some (.ref ls), some (.ref lm), y7, none, none] ∧ Pool H' PL (c + 2 + i * 20) ∧ Kp PL H H' ∧ H' ls = some (.lst (sa.map V.ref)) ∧ H' lm = some (.lst (ka.map V.ref)) ∧
      Each (fun a ns => SqT K H' a (List.map V.int ns)) sa steps ∧ Each (fun a zs => SqT K H' a (List.map V.str zs)) ka marks ∧ steps.length = i ∧ marks.length = i ∧ (∀ r ∈ steps, RiseI (1 + (x : Int)) r) ∧ (∀ r ∈ marks, RiseS r ∧ r.length ≤ 8))
      ⟨[], [], [], [], none, rfl, ?_, (K02.mut hls0).mut hlm0, ?_, upd_same, .nil, .nil, rfl, rfl, fun _ h => absurd h List.not_mem_nil, fun _ h => absurd h List.not_mem_nil⟩ ?_ ?_⟩
    · exact P3.upd om
    · rw [upd_ne nsm, upd_same]
      rfl
    · rintro i σ H6 hi ⟨sa, ka, steps, marks, y7, rfl, P6, K6, g1, g2, g4, g5, g6, g7, g8, g9⟩
      have hi' : i < 8 := by omega
      have lsa : sa.length = i := by rw [g4.len, g6]
      have lka : ka.length = i := by rw [g5.len, g7]
      -- steps.append(..)
      refine ⟨_, rfl, .inl ⟨rfl, _, SqL.of g1⟩, _, rfl, _, rfl, by omega, by omega, fun D hD => lc_rangeP (a := PL) 1 (fun i acc => ∃ gs : List Int, acc = gs.map V.int ∧ gs.Pairwise (· < ·) ∧ ∀ n ∈ gs, 0 ≤ n ∧ n < i) P6 hD (by omega) ⟨[], rfl, List.Pairwise.nil, fun _ h => absurd h List.not_mem_nil⟩ (fun _ => rfl) ?_ ?_⟩
      · rintro j H7 acc hj P7 K7 ⟨gs, rfl, pw, bd⟩ _ N1 N2 k1 k2
        refine ⟨_, rfl, PL, _, 6, rfl, P7, by omega, by decide, by decide, fun H8 d _ _ P8 K8 => ⟨_, rfl, _, _, rfl, rfl, _, rfl, ite2 (fun _ => ?_) (fun _ => ?_)⟩⟩
        · refine ⟨_, rfl, k1 _ _ P8 K8 ⟨gs ++ [(j : Int)], by rw [List.map_append, Int.zero_add]; rfl, ?_, ?_⟩⟩
          · refine List.pairwise_append.mpr ⟨pw, List.pairwise_singleton _ _, fun x hx y hy => ?_⟩
            rw [List.mem_singleton.mp hy]
            exact (bd x hx).2
          · intro n hn
            rcases List.mem_append.mp hn with hn | hn
            · have := bd n hn
              omega
            · rw [List.mem_singleton.mp hn]
              omega
        · exact k2 _ P8 K8 ⟨gs, rfl, pw, fun n hn => by have := bd n hn; omega⟩
      rintro H7 acc P7 K7 hD7 _ ⟨gs, rfl, pw, bd⟩ oD
      refine ⟨D, _, rfl, .inl ⟨SqL.of hD7, fun t ht => ?_⟩⟩
      have st := same_upd (o := .tup (gs.map V.int)) ht
      have g1' := st _ _ (K7 _ _ g1 os)
      have g2' := st _ _ (K7 _ _ g2 om)
      refine ⟨ls, _, _, rfl, rfl, g1', szLt (by rw [List.length_map]; omega), ?_⟩
      have tls : t ≠ ls := (ne_of_none (K7 _ _ g1 os) ht).symm
      have P8 : Pool (upd (upd H7 t (.tup (gs.map V.int))) ls (.lst (sa.map V.ref ++ [.ref t]))) PL (c + 2 + i * 20 + 8) := ((P7.same st).upd os).mono (by omega)
      have K8 : Kp PL H (upd (upd H7 t (.tup (gs.map V.int))) ls (.lst (sa.map V.ref ++ [.ref t]))) := ((K6.trans K7).trans (skp st)).mut hls0
      have e78 : Imm H6 (upd (upd H7 t (.tup (gs.map V.int))) ls (.lst (sa.map V.ref ++ [.ref t]))) := ((P6.imm K7).trans (simm st)).trans (Imm.list g1')
      have h1 : upd (upd H7 t (.tup (gs.map V.int))) ls (.lst (sa.map V.ref ++ [.ref t])) ls = some (.lst ((sa ++ [t]).map V.ref)) := by
        rw [upd_same, List.map_append]
        rfl
      have h2 : upd (upd H7 t (.tup (gs.map V.int))) ls (.lst (sa.map V.ref ++ [.ref t])) lm = some (.lst (ka.map V.ref)) := by
        rw [upd_ne nsm.symm]
        exact g2'
      have h4 := Each.snoc (R := fun a ns => SqT K _ a (List.map V.int ns)) (a := t) (x := gs) (SqT.of (by rw [upd_ne tls, upd_same])) (g4.imp fun _ _ h => e78.sq h)
      have h5 := g5.imp fun _ _ h => e78.sq h
      generalize upd (upd H7 t (.tup (gs.map V.int))) ls (.lst (sa.map V.ref ++ [.ref t])) = H8 at P8 K8 h1 h2 h4 h5 ⊢
      have hl8 := K8 _ _ hl ol
      have bd' : ∀ n ∈ gs, 0 ≤ n ∧ n < 1 + (x : Int) := fun n hn => by
        have := bd n hn
        omega
      -- marks.append(..)
      refine ⟨_, rfl, .inl ⟨rfl, _, SqL.of h2⟩, _, rfl, l, rfl, ⟨_, SqL.of hl8⟩, fun D2 hD2 => lc_listP (a := l) (A := PL) 1 (fun i acc => ∃ ss : List Str, acc = ss.map V.str ∧ ss.Sublist (zs.take i)) P8 hl8 ol hD2 (by rw [List.length_map]; omega) ⟨[], rfl, List.nil_sublist _⟩ (fun _ => rfl) ?_ ?_⟩
      · rintro j x H9 acc hx P9 K9 ⟨ss, rfl, sub⟩ _ N1 N2 k1 k2
        obtain ⟨z, hz, rfl⟩ := map_get hx
        have hj : j < zs.length := (List.getElem?_eq_some_iff.mp hz).1
        have etk : zs.take (j + 1) = zs.take j ++ [z] := by
          rw [List.take_add_one, hz]
          rfl
        refine ⟨_, rfl, PL, _, 2, rfl, P9, by omega, by decide, by decide, fun H10 d _ _ P10 K10 => ⟨rfl, _, rfl, ite2 (fun _ => ⟨_, rfl, k1 _ _ P10 K10 ⟨ss ++ [z], by rw [List.map_append]; rfl, ?_⟩⟩) (fun _ => k2 _ P10 K10 ⟨ss, rfl, ?_⟩)⟩⟩
        · rw [etk]
          exact sub.append (List.Sublist.refl _)
        · rw [etk]
          exact sub.trans (List.sublist_append_left _ _)
      rintro H9 acc P9 K9 hD9 _ ⟨ss, rfl, sub⟩ oD2
      rw [List.length_map] at P9 sub
      have sub' : ss.Sublist zs := sub.trans (List.take_sublist _ _)
      have lss := sub'.length_le
      refine ⟨D2, ss, rfl, SqL.of hD9, by omega, fun ys p pm so hp => ?_⟩
      have lys := pm.length_eq
      have s10 : Same H9 (upd H9 p (.lst (ys.map V.str))) := same_upd hp
      refine ⟨p, _, rfl, .inl ⟨SqL.of upd_same, fun t2 ht2 => ?_⟩⟩
      have s11 := s10.trans (same_upd (o := .tup (ys.map V.str)) ht2)
      have h2' := s11 _ _ (K9 _ _ h2 om)
      refine ⟨lm, _, _, rfl, rfl, h2', szLt (by rw [List.length_map]; omega), ?_⟩
      have t2m : t2 ≠ lm := (ne_of_none (s10 _ _ (K9 _ _ h2 om)) ht2).symm
      have e12 := ((P8.imm K9).trans (simm s11)).trans (Imm.list (o := .lst (ka.map V.ref ++ [.ref t2])) h2')
      refine ⟨sa ++ [t], ka ++ [t2], steps ++ [gs], marks ++ [ys], some (.int (0 + i)), rfl, ?_, ?_, ?_, ?_, h4.imp fun _ _ h => e12.sq h, ?_, ?_, ?_, ?_, ?_⟩
      · exact ((P9.same s11).upd om).mono (by omega)
      · exact ((K8.trans K9).trans (skp s11)).mut hlm0
      · rw [upd_ne nsm]
        exact s11 _ _ (K9 _ _ h1 os)
      · rw [upd_same, List.map_append]
        rfl
      · exact Each.snoc (R := fun a zs => SqT K _ a (List.map V.str zs)) (a := t2) (x := ys) (SqT.of (by rw [upd_ne t2m, upd_same])) (h5.imp fun _ _ h => e12.sq h)
      · rw [List.length_append, g6]
        rfl
      · rw [List.length_append, g7]
        rfl
      · intro r hr
        rcases List.mem_append.mp hr with hr | hr
        · exact g8 r hr
        · rw [List.mem_singleton.mp hr]
          exact ⟨pw, bd'⟩
      · intro r hr
        rcases List.mem_append.mp hr with hr | hr
        · exact g9 r hr
        · rw [List.mem_singleton.mp hr]
          exact ⟨sorted_rise so (pm.nodup_iff.mpr (nz.sublist sub')) fun z hz => gz z (sub'.subset (pm.mem_iff.mp hz)), by omega⟩
    · rintro σ H6 ⟨sa, ka, steps, marks, y7, rfl, P6, K6, g1, g2, g4, g5, g6, g7, g8, g9⟩
      refine ⟨_, rfl, ls, _, rfl, .inl ⟨SqL.of g1, fun s hs => ?_⟩⟩
      have s1 : Same H6 (upd H6 s (.tup (sa.map V.ref))) := same_upd hs
      refine ⟨_, rfl, lm, _, rfl, .inl ⟨SqL.of (s1 _ _ g2), fun k hk => ⟨by show 2 ≤ sizeLine; decide, fun m hm => ?_⟩⟩⟩
      have sk := same_upd (o := .tup (ka.map V.ref)) hk
      have sm := same_upd (o := .tup [.ref s, .ref k]) hm
      have s3 := (s1.trans sk).trans sm
      refine q _ m steps marks ((P6.same s3).mono (by omega)) (K6.trans (skp s3)) ⟨s, k, sa, ka, SqT.of upd_same, ssqt (sk.trans sm) (SqT.of upd_same), ssqt sm (SqT.of upd_same), g4.imp fun _ _ h => (simm s3).sq h, g5.imp fun _ _ h => (simm s3).sq h⟩ ⟨by omega, by omega, by omega, ?_, g9⟩ (by omega)
      intro r hr
      have := g8 r hr
      rw [show (1 + (x : Int)) = (steps.length : Int) by omega] at this
      exact this
end

namespace SAY
open PySem PySem.Spec PyProof.Rows L2
/-- a list compared with one of another length, or an empty one -/
theorem op_eqNil {X : Cx} (hu : X.A.units + 64 < cLine) : OpR X (compareOp .Eq) (fun x y H Q => ∃ a b xs, x = .ref a ∧ y = .ref b ∧ SqL X.K H a xs ∧ SqL X.K H b [] ∧ Q (.bl xs.isEmpty) H) := by
  intro pins s σ H x y v u Q I rx ry h
  obtain ⟨a, b, xs, rfl, rfl, ha, hb, q⟩ := h
  cases rx
  cases ry
  obtain ⟨its, r1, p1, _⟩ := I.list ha
  obtain ⟨jts, r2, p2, _⟩ := I.list hb
  cases r2
  have hA : X.A.units < cLine := by omega
  cases r1 with
  | nil => exact SeqAt.eq_listAt (e := fun _ => true) p1.isList p2.isList rfl hA (fun j h1 _ => absurd h1 (by simp)) ⟨.bl true, H, I, rfl, q⟩
  | cons _ _ => exact SeqAt.eq_list_lengthsAt p1.isList p2.isList (by simp) hA ⟨.bl false, H, I, rfl, q⟩
end SAY

/-! ### list != [], >= of numbers or texts, list.index in a comprehension -/
namespace EQL
open PySem PySem.Spec PyProof.Rows L2
theorem op_neNil {X : Cx} (hu : X.A.units + 64 < cLine) : OpR X (compareOp .NotEq) (fun x y H Q => ∃ a b xs, x = .ref a ∧ y = .ref b ∧ SqL X.K H a xs ∧ SqL X.K H b [] ∧ Q (.bl (!xs.isEmpty)) H) := by
  intro pins s σ H x y v u Q I rx ry h
  obtain ⟨a, b, xs, rfl, rfl, ha, hb, q⟩ := h
  cases rx
  cases ry
  obtain ⟨its, r1, p1, _⟩ := I.list ha
  obtain ⟨jts, r2, p2, _⟩ := I.list hb
  cases r2
  have hA : X.A.units < cLine := by omega
  cases r1 with
  | nil => exact SeqAt.RcNeAt.lists (e := fun _ => true) p1.isList p2.isList rfl hA (fun j h1 _ => absurd h1 (by simp)) _ _ _ _ ⟨.bl false, H, I, rfl, q⟩
  | cons _ _ => exact SeqAt.RcNeAt.lists_lengths p1.isList p2.isList (by simp) hA _ _ _ _ ⟨.bl true, H, I, rfl, q⟩
theorem op_geU {X : Cx} : OpR X (compareOp .GtE) (fun x y H Q => (∃ i j, x = .int i ∧ y = .int j ∧ Q (.bl (decide (j ≤ i))) H) ∨ (∃ i j : Str, x = .str i ∧ y = .str j ∧ Q (.bl (!decide (i.cps.toList < j.cps.toList))) H)) := by
  intro pins s σ H x y v u Q I rx ry h
  rcases h with h | h
  · exact op_ge pins s σ H x y v u Q I rx ry h
  · exact op_ge_str pins s σ H x y v u Q I rx ry h
theorem idxB {X : Cx} {o e : Expr} {es : List Expr} {to : TE} {t : TA} {apos cpos : Pos} (K : PySem.W.Frag) (ho : PE X o to) (ha : L2.PA X (e :: es) t) (h : X.K = K := by rfl)
    (hbase : attributeBase o "index" X.env (eval o X.env) = eval o X.env := by rfl)
    (hfew : ((backTo cpos (starEach (e :: es) X.env)).all (fun x => !x.1) && (backToKw cpos (keywordEach [] X.env)).all (fun x => x.1.isSome)
      && decide ((e :: es).length + ([] : List Keyword).length + (if ([] : List Keyword).isEmpty then 0 else 1) < 30)) = true := by rfl)
    (hline : (apos.endLine == cpos.line) = true := by rfl) (hs : starEach (e :: es) X.env = (false, eval e X.env) :: starEach es X.env := by rfl) (hplain : (backTo cpos (starEach es X.env)).any (·.1) = false := by rfl) :
    PE X (.Call (.Attribute o "index" apos) (e :: es) [] cpos) (tBM K "list" (rIndex K) to t) := by
  subst h
  exact pe_bm PySem.F.plainAttrs_list PySem.F.slot_list_index PySem.F.type_list_index mt_index ho ha hbase hfew hline hs hplain
end EQL

/-! ### texts of machines -/
abbrev s_law_line : Stmt := topS 30
theorem sc_law_line : FnScope ["_law_onto", "_law_names_here", "_law_to"] ["_law_onto", "_law_names_here"] (defScope s_law_line) := ⟨rfl, rfl, rfl, by decide +kernel, rfl, by decide +kernel, by decide +kernel⟩
abbrev s_law_machine_text : Stmt := topS 31
theorem sc_law_machine_text : FnScope ["_law_machine_here", "_law_k"] ["_law_machine_here"] (defScope s_law_machine_text) := ⟨rfl, rfl, rfl, by decide +kernel, rfl, by decide +kernel, by decide +kernel⟩
def gtS : Str := Str.ofString ">"
def spS : Str := Str.ofString " "
def nlS : Str := Str.ofString "\n"
def sI (n : Int) : Str := Str.ofString (toString n)
def lineW (ns : List Int) (zs : List Str) : List Str := zs ++ [gtS] ++ ns.map sI
def lineT (ns : List Int) (zs : List Str) : Str := Txt.join spS (lineW ns zs)
def linesT (steps : List (List Int)) (marks : List (List Str)) : List Str := (steps.zip marks).map fun p => lineT p.1 p.2
def machT (steps : List (List Int)) (marks : List (List Str)) : Str := Txt.join nlS (linesT steps marks)
theorem sI_len : ∀ n : Nat, n < 41 → (sI (n : Int)).length ≤ 8 := by decide +kernel
theorem sum8 : ∀ l : List Str, (∀ x ∈ l, x.length ≤ 8) → (l.map (·.length)).sum ≤ 8 * l.length
  | [], _ => Nat.zero_le _
  | x :: l, h => by
    have h1 := h x List.mem_cons_self
    have h2 := sum8 l fun y hy => h y (List.mem_cons_of_mem _ hy)
    rw [List.map_cons, List.sum_cons, List.length_cons]
    omega
theorem sumB (B : Nat) : ∀ l : List Str, (∀ x ∈ l, x.length ≤ B) → (l.map (·.length)).sum ≤ B * l.length
  | [], _ => Nat.zero_le _
  | x :: l, h => by
    have h1 := h x List.mem_cons_self
    have h2 := sumB B l fun y hy => h y (List.mem_cons_of_mem _ hy)
    rw [List.map_cons, List.sum_cons, List.length_cons, Nat.mul_succ]
    omega
theorem join_len (y : Str) (hy : y.length = 1) : ∀ l : List Str, (Txt.join y l).length ≤ (l.map (·.length)).sum + l.length := by
  intro l
  rw [show Txt.join y l = Str.join y l from StrLaws.glued_eq_join y l]
  induction l with
  | nil => exact Nat.zero_le _
  | cons x r ih =>
    cases r with
    | nil =>
      show x.length ≤ x.length + 0 + 1
      omega
    | cons z r =>
      show (x ++ y ++ Str.join y (z :: r)).length ≤ _
      rw [app_len, app_len, hy, List.map_cons, List.sum_cons, List.length_cons]
      omega
theorem line_short {ns : List Int} {zs : List Str} {k : Nat} (hs : RiseI k ns) (hk : k ≤ 41) (hz : ∀ z ∈ zs, GoodName z) : ∀ x ∈ lineW ns zs, x.length ≤ 8 := by
  intro x hx
  rcases List.mem_append.mp hx with hx | hx
  · rcases List.mem_append.mp hx with hx | hx
    · exact (hz x hx).hi
    · rw [List.mem_singleton.mp hx]
      decide
  · obtain ⟨n, hn, rfl⟩ := List.mem_map.mp hx
    have := hs.2 n hn
    obtain ⟨m, rfl⟩ : ∃ m : Nat, n = (m : Int) := ⟨n.toNat, by omega⟩
    exact sI_len m (by omega)
theorem line_len {ns : List Int} {zs : List Str} : (lineW ns zs).length = zs.length + 1 + ns.length := by
  unfold lineW
  rw [List.length_append, List.length_append, List.length_map]
  rfl
theorem lineT_len {ns : List Int} {zs : List Str} {k : Nat} (hs : RiseI k ns) (hk : k ≤ 41) (hz : ∀ z ∈ zs, GoodName z) (hl : zs.length ≤ 8) : (lineT ns zs).length ≤ 500 := by
  have a := join_len spS (by decide) (lineW ns zs)
  have b := sum8 _ (line_short hs hk hz)
  have c := rise_len hs (by omega)
  rw [line_len] at a b
  show (Txt.join spS (lineW ns zs)).length ≤ 500
  omega
section
variable {P : Program} {w : World} {K : PySem.W.Frag} {mg : Str → Option Value} {base : Heap}
def spMT (K : PySem.W.Frag) : Sp := fun vs H Q _ => ∃ (m : Addr) (steps : List (List Int)) (marks : List (List Str)), vs = [.ref m] ∧ MachAt K H m steps marks ∧ GoodMach steps marks ∧ ∀ H', Same H H' → Q (.str (machT steps marks)) H'
theorem lines_at {steps : List (List Int)} {marks : List (List Str)} {i : Nat} {ns : List Int} {zs : List Str} (h1 : steps[i]? = some ns) (h2 : marks[i]? = some zs) : (linesT steps marks)[i]? = some (lineT ns zs) := by
  unfold linesT
  rw [List.getElem?_map, (List.getElem?_zip_eq_some (z := (ns, zs))).mpr ⟨h1, h2⟩]
  rfl
theorem lines_len {steps : List (List Int)} {marks : List (List Str)} (h : steps.length = marks.length) : (linesT steps marks).length = steps.length := by
  unfold linesT
  rw [List.length_map, List.length_zip]
  omega
theorem lines_short {steps : List (List Int)} {marks : List (List Str)} (G : GoodMach steps marks) : ∀ x ∈ linesT steps marks, x.length ≤ 500 := by
  intro x hx
  unfold linesT at hx
  obtain ⟨⟨ns, zs⟩, hp, rfl⟩ := List.mem_map.mp hx
  obtain ⟨a, b⟩ := List.of_mem_zip hp
  have hi := G.hi
  exact lineT_len (G.st _ a) (by omega) (G.mr _ b).1.2 (G.mr _ b).2
end

section
variable {P : Program} {w : World} {K : PySem.W.Frag} {mg : Str → Option Value} {base : Heap}
def spLL (K : PySem.W.Frag) : Sp := fun vs H Q _ => ∃ (a b : Addr) (ns : List Int) (zs : List Str) (k : Nat), vs = [.ref a, .ref b] ∧ SqT K H a (ns.map V.int) ∧ SqT K H b (zs.map V.str) ∧ RiseI k ns ∧ k ≤ 41 ∧ (∀ z ∈ zs, GoodName z) ∧ zs.length ≤ 8 ∧ ∀ H', Same H H' → Q (.str (lineT ns zs)) H'
theorem ok_ll {f : Addr} {fd : FuncData} (F : Fun K "_law_line" "_law_line" s_law_line f fd) (T : Bi mg) : FnOk P w K mg base CX0 1 f fd ["_law_onto", "_law_names_here"] (spLL K) := by
  refine F.ok sc_law_line (fun vs H Q E h => ?_) (fun cdv A outer s H vs Q E hr h => ?_)
  · obtain ⟨a, b, ns, zs, k, rfl, _⟩ := h
    rfl
  · obtain ⟨a, b, ns, zs, k, rfl, hn2, hz2, gs, hk, gz, lz, q⟩ := h
    have ln := rise_len gs (by omega)
    refine ⟨_, (pss_one (ps_ret (pe_join pe_str (pe_op op_cat (pe_op op_cat (pe_callTy call_list_of (by rfl) T.list (by decide +kernel) (pa_cons (pv 1) pa_nil)) (pe_lst (pa_cons pe_str pa_nil))) (pe_lc (own := [("_law_to", 2)]) (g := gName 2) rfl sc_law_line.nd (pi_tup (pv 0)) (blkOk_by (own := [("_law_to", 2)]) (N := ["_law_onto", "_law_names_here", "_law_to"]) (sc := defScope s_law_line) (by decide +kernel)) (fun _ _ _ _ _ => (pg_name (i := 2) sc_law_line.nd rfl (.inl rfl))) (fun _ _ _ _ _ => pts_nil) (fun _ _ _ _ _ => (pe_callTy call_str_int (by rfl) T.str (by decide +kernel) (pa_cons (pv 2) pa_nil)))))))), ?_⟩
    refine ⟨⟨_, rfl⟩, _, rfl, b, _, rfl, .inr hz2, fun p1 hp1 => ⟨by show 1 ≤ sizeLine; decide, fun p2 hp2 => ?_⟩⟩
    have u1 := same_upd (o := .lst (zs.map V.str)) hp1
    have u2 := same_upd (o := .lst [.str gtS]) hp2
    refine ⟨p1, p2, _, _, rfl, rfl, u2 _ _ upd_same, upd_same, szOk (by rw [List.length_map]; show _ + 1 ≤ _; omega), fun p3 hp3 => ?_⟩
    have u3 := same_upd (o := .lst (zs.map V.str ++ [.str gtS])) hp3
    have u13 := (u1.trans u2).trans u3
    have v3 : (L2.upd (L2.upd (L2.upd H p1 (.lst (zs.map V.str))) p2 (.lst [.str gtS])) p3 (.lst (zs.map V.str ++ [.str gtS]))) p3 = some (.lst (zs.map V.str ++ [.str gtS])) := upd_same
    have hn3 := ssqt u13 hn2
    refine ⟨_, rfl, a, rfl, ⟨_, hn3⟩, fun D hD => ?_⟩
    refine lc_tupS (fun j acc => acc = ((ns.take j).map sI).map V.str) hn3 hD (by rw [List.length_map]; omega) rfl (fun _ => rfl) (fun j x H4 acc hj s4 p5 p4 N1 N2 n1 n2 => ?_) (fun H4 acc s4 hD4 hl p5 => ?_)
    · obtain ⟨n, hn, rfl⟩ := map_get hj
      have := gs.2 n (List.mem_of_getElem? hn)
      refine ⟨_, rfl, n, rfl, Nat.lt_of_le_of_lt (Nat.log2_le_self _) (by omega), n1 _ H4 (Same.refl _) ?_⟩
      rw [p5, List.take_add_one, hn, List.map_append, List.map_append]
      rfl
    · rw [List.length_map, List.take_length] at p5
      subst p5
      refine ⟨p3, D, _, _, rfl, rfl, s4 _ _ v3, hD4, szOk (by rw [List.length_append, List.length_map, List.length_map, List.length_map]; show _ + 1 + _ ≤ _; omega), fun p4 hp4 => ?_⟩
      have u4 := same_upd (o := .lst (zs.map V.str ++ [.str gtS] ++ (ns.map sI).map V.str)) hp4
      refine ⟨_, p4, lineW ns zs, rfl, rfl, .inl (SqL.of ?_), ?_, q _ ((u13.trans s4).trans u4)⟩
      · rw [upd_same]
        unfold lineW
        rw [List.map_append, List.map_append]
        rfl
      · have e := sum8 _ (line_short (ns := ns) (zs := zs) gs hk gz)
        have e1 : (Str.ofString " ").length = 1 := by decide
        have e2 := line_len (ns := ns) (zs := zs)
        rw [e1]
        omega
theorem ok_lmt {f : Addr} {fd : FuncData} (F : Fun K "_law_machine_text" "_law_machine_text" s_law_machine_text f fd) (T : Bi mg) (c_law_line : Cal P w K mg base 1 "_law_line" ["_law_onto", "_law_names_here"] (spLL K)) : FnOk P w K mg base CX0 2 f fd ["_law_machine_here"] (spMT K) := by
  refine F.ok sc_law_machine_text (fun vs H Q E h => ?_) (fun cdv A outer s H vs Q E hr h => ?_)
  · obtain ⟨m, steps, marks, rfl, _⟩ := h
    rfl
  · obtain ⟨m, steps, marks, rfl, M, G, q⟩ := h
    obtain ⟨s, k, sa, ka, h1, h2, h3, h4, h5⟩ := M.ex
    have l1 := h4.len
    have l2 := h5.len
    have g1 := G.len
    have g3 := G.hi
    refine ⟨_, (pss_one (ps_ret (pe_join pe_str (pe_lc (own := [("_law_k", 1)]) (g := gName 1) rfl sc_law_machine_text.nd (pi_range1 (by rfl) T.range (pa_cons (pe_callB call_len_seq (by rfl) T.len PySem.boot_len (pa_cons (pe_ix ix_tup (pv 0) pe_int (fun _ _ => rfl)) pa_nil)) pa_nil)) (blkOk_by (own := [("_law_k", 1)]) (N := ["_law_machine_here", "_law_k"]) (sc := defScope s_law_machine_text) (by decide +kernel)) (fun _ _ _ _ _ => (pg_name (i := 1) sc_law_machine_text.nd rfl (.inl rfl))) (fun _ _ _ _ _ => pts_nil) (fun _ _ _ _ _ => (pe_call c_law_line.G hr (by rfl) c_law_line.g c_law_line.kp c_law_line.b .nil pass0 (pa_cons (pe_ix (ixT K) (pe_ix (ixT K) (pv 0) pe_int (fun _ _ => rfl)) (pv 1) (fun _ _ => rfl)) (pa_cons (pe_ix (ixT K) (pe_ix (ixT K) (pv 0) pe_int (fun _ _ => rfl)) (pv 1) (fun _ _ => rfl)) pa_nil)))))))), ?_⟩
    refine ⟨⟨_, rfl⟩, _, rfl, m, _, 0, .ref s, rfl, rfl, h1, at_of (j := 0) rfl rfl, s, _, rfl, .inr h2, _, rfl, by omega, by rw [List.length_map]; omega, fun D hD => ?_⟩
    refine lc_rangeS (fun i acc => acc = ((linesT steps marks).take i).map V.str) hD (by rw [List.length_map]; omega) rfl (fun _ => rfl) (fun i H4 acc hi s4 p5 _ N1 N2 n1 n2 => ?_) (fun H4 acc s4 hD4 _ p5 => ?_)
    · have hi : i < steps.length := by
        have : i < (((sa.map V.ref).length : Nat) : Int).toNat := hi
        rw [List.length_map] at this
        omega
      have hn1 : steps[i]? = some steps[i] := List.getElem?_eq_getElem hi
      have hz1 : marks[i]? = some (marks[i]'(by omega)) := List.getElem?_eq_getElem (by omega)
      generalize steps[i] = ns at hn1
      generalize marks[i]'(by omega) = zs at hz1
      obtain ⟨a, ha, hn2⟩ := h4.getx hn1
      obtain ⟨b, hb, hz2⟩ := h5.getx hz1
      have gs := G.st ns (List.mem_of_getElem? hn1)
      have gm := G.mr zs (List.mem_of_getElem? hz1)
      refine ⟨_, rfl, m, _, 0, .ref s, rfl, rfl, ssqt s4 h1, at_of (j := 0) rfl rfl, _, rfl, s, _, _, .ref a, rfl, rfl, ssqt s4 h2, by rw [Int.zero_add]; exact atI_nat (get_map ha), _, rfl, m, _, 1, .ref k, rfl, rfl, ssqt s4 h1, at_of (j := 1) rfl rfl, _, rfl, k, _, _, .ref b, rfl, rfl, ssqt s4 h3, by rw [Int.zero_add]; exact atI_nat (get_map hb), a, b, ns, zs, steps.length, rfl, ssqt s4 hn2, ssqt s4 hz2, gs, by omega, gm.1.2, gm.2, fun H5 s5 => ?_⟩
      refine n1 _ H5 s5 ?_
      rw [p5, List.take_add_one, lines_at hn1 hz1, List.map_append]
      rfl
    · have e0 : (((sa.map V.ref).length : Nat) : Int).toNat = (linesT steps marks).length := by
        rw [List.length_map, l1, lines_len g1]
        rfl
      rw [e0, List.take_length] at p5
      subst p5
      refine ⟨_, D, linesT steps marks, rfl, rfl, .inl (SqL.of hD4), ?_, q H4 s4⟩
      have e := sumB 500 _ (lines_short G)
      have e1 : (Str.ofString "\n").length = 1 := by decide
      have e2 := lines_len g1
      rw [e1]
      omega
end

/-! ### names among texts -/
abbrev sis_name : Stmt := topS 11
theorem scis_name : FnScope ["thing", "sign"] ["thing"] (defScope sis_name) := ⟨rfl, rfl, rfl, by decide +kernel, rfl, by decide +kernel, by decide +kernel⟩
abbrev s_law_good_name : Stmt := topS 25
theorem sc_law_good_name : FnScope ["_law_thing", "_law_words", "_law_sign_here"] ["_law_thing"] (defScope s_law_good_name) := ⟨rfl, rfl, rfl, by decide +kernel, rfl, by decide +kernel, by decide +kernel⟩
section
variable {P : Program} {w : World} {K : PySem.W.Frag} {mg : Str → Option Value} {base : Heap}
def nmB (x : Str) : Bool := decide (1 ≤ x.length) && decide (x.length ≤ 8) && decide (x ∉ wordsL) && x.cps.toList.all fun c => decide (c ∈ lettersS.cps.toList)
theorem nm_eq {z : Str} : nmB z = (decide (1 ≤ z.length) && decide (z.length ≤ 8) && decide (z ∉ wordsL) && z.cps.toList.all fun c => decide (c ∈ lettersS.cps.toList)) := rfl
theorem nm_len {z : Str} (h : ¬ (1 ≤ z.length ∧ z.length ≤ 8)) : nmB z = false := by
  rw [nm_eq]
  by_cases h1 : 1 ≤ z.length
  · rw [decide_eq_true h1, decide_eq_false fun h2 => h ⟨h1, h2⟩]
    rfl
  · rw [decide_eq_false h1]
    rfl
theorem nm_word {z : Str} (h : z ∈ wordsL) : nmB z = false := by
  rw [nm_eq]
  rw [decide_eq_false (p := z ∉ wordsL) (fun k => k h), Bool.and_false]
  rfl
theorem nm_rest {z : Str} (h1 : 1 ≤ z.length) (h2 : z.length ≤ 8) (h3 : z ∉ wordsL) : nmB z = z.cps.toList.all fun c => decide (c ∈ lettersS.cps.toList) := by
  rw [nm_eq]
  rw [decide_eq_true h1, decide_eq_true h2, decide_eq_true h3]
  rfl
theorem nm_good {z : Str} : nmB z = true ↔ GoodName z := by
  rw [nm_eq, Bool.and_eq_true, Bool.and_eq_true, Bool.and_eq_true, List.all_eq_true]
  constructor
  · rintro ⟨⟨⟨a, b⟩, c⟩, d⟩
    exact ⟨of_decide_eq_true a, of_decide_eq_true b, of_decide_eq_true c, fun x hx => of_decide_eq_true (d x hx)⟩
  · intro g
    exact ⟨⟨⟨decide_eq_true g.lo, decide_eq_true g.hi⟩, decide_eq_true g.nw⟩, fun x hx => decide_eq_true (g.al x hx)⟩
theorem all_drop {z : Str} {i c : Nat} (h : z.cps[i]? = some c) : (z.cps.toList.drop i).all (fun c => decide (c ∈ lettersS.cps.toList)) = (decide (c ∈ lettersS.cps.toList) && (z.cps.toList.drop (i + 1)).all fun c => decide (c ∈ lettersS.cps.toList)) := by
  rw [← Array.getElem?_toList] at h
  obtain ⟨hi, rfl⟩ := List.getElem?_eq_some_iff.mp h
  rw [List.drop_eq_getElem_cons hi]
  rfl
def spNameS : Sp := fun vs H Q _ => ∃ z : Str, vs = [.str z] ∧ z.length ≤ 90000 ∧ ∀ H', Same H H' → Q (.bl (nmB z)) H'
theorem ok_nameS {f : Addr} {fd : FuncData} (F : Fun K "is_name" "is_name" sis_name f fd) (T : Bi mg) (W : Wd K mg) : FnOk P w K mg base CX0 1 f fd ["thing"] spNameS := by
  refine F.ok scis_name (fun vs H Q E h => ?_) (fun cdv A outer s H vs Q E hr h => ?_)
  · obtain ⟨z, rfl, _⟩ := h
    rfl
  · obtain ⟨z, rfl, hz, q⟩ := h
    have q := q H (Same.refl _)
    refine ⟨_, (pss_cons (ps_if (PW.pt (pw_or (pt_not (pt_val (pe_callB call_isi (by rfl) T.isinstance (by decide +kernel) (pa_cons (pv 0) (pa_cons (pe_bltn (v := .ty "str") (u := .type "str") (by rfl) T.str (by decide +kernel) rfl) pa_nil))))) (pw_or (pt_not (pt_chain op_le op_le pe_int (pe_callB call_len_str (by rfl) T.len PySem.boot_len (pa_cons (pv 0) pa_nil)) pe_int)) (pw_or1 (pt_cmpR op_in_seq (pv 0) (pe_glob rfl W.gWORDS W.rWORDS) (by rfl))))))
        (pss_one (ps_ret pe_bl))
        pss_nil)
      (pss_cons (ps_for PassesOwn.never rfl (pi_str (pv 0)) (pg_name (i := 1) scis_name.nd rfl (.inl rfl))
        (pss_one (ps_if (pt_cmpR op_notIn_sign (pv 1) (pe_glob rfl W.gLETTERS W.rLETTERS) (by rfl))
          (pss_one (ps_ret pe_bl))
          pss_nil)))
      (pss_one (ps_ret pe_bl)))), ?_⟩
    refine ⟨_, rfl, _, _, _, _, true, rfl, .ty "str", .base (.str _), kit_ty (by decide +kernel), true, rfl, iteF ?_⟩
    refine ⟨_, rfl, z, rfl, szOk (by omega), 1, _, rfl, rfl, _, rfl, ite2 (fun e => ?_) (fun e => ?_)⟩
    · have h1 : 1 ≤ z.length := by
        have := of_decide_eq_true e
        omega
      refine ⟨_, _, rfl, rfl, _, rfl, ite2 (fun e2 => ?_) (fun e2 => ?_)⟩
      · rw [nm_len fun h => notdec e2 (by omega)] at q
        exact iteT q
      · have h2 : z.length ≤ 8 := by
          have := dec_of e2
          omega
        refine ⟨_, rfl, _, _, rfl, .inr (W.sW _), rfl, flat_str _, _, rfl, ?_⟩
        rw [inV_str]
        refine ite2 (fun e3 => ?_) (fun e3 => ?_)
        · rw [nm_word (of_decide_eq_true e3)] at q
          exact q
        have h3 : z ∉ wordsL := fun k => e3 (decide_eq_true k)
        rw [nm_rest h1 h2 h3] at q
        refine ⟨_, rfl, z, rfl, for_it walk_str (fun i σ H' => ∃ y, σ = [some (.str z), y] ∧ H' = H ∧ z.cps.toList.all (fun c => decide (c ∈ lettersS.cps.toList)) = (z.cps.toList.drop i).all fun c => decide (c ∈ lettersS.cps.toList)) ⟨_, rfl, rfl, rfl⟩ (fun _ _ _ _ _ => trivial) ?_ ?_⟩
        · rintro i x σ H1 H2 hi ⟨y, rfl, rfl, e4⟩ ⟨rfl, c, hc, rfl⟩
          rw [all_drop hc] at e4
          refine ⟨_, rfl, c, lettersS, rfl, rfl, _, rfl, ite2 (fun e5 => ?_) (fun e5 => ⟨_, rfl, rfl, ?_⟩)⟩
          · rw [decide_eq_false (notdec e5), Bool.false_and] at e4
            rw [e4] at q
            exact q
          · rw [e4, decide_eq_true (dec_of e5), Bool.true_and]
        · rintro σ H1 ⟨y, rfl, rfl, e4⟩
          rw [List.drop_of_length_le (by rw [Array.length_toList]; exact Nat.le_refl _)] at e4
          rw [e4] at q
          exact q
    · rw [nm_len fun h => e (decide_eq_true (by omega))] at q
      exact ⟨_, rfl, iteT q⟩
theorem ok_goodS {f : Addr} {fd : FuncData} (F : Fun K "_law_good_name" "_law_good_name" s_law_good_name f fd) (T : Bi mg) : FnOk P w K mg base CX0 1 f fd ["_law_thing"] spNameS := by
  refine F.ok sc_law_good_name (fun vs H Q E h => ?_) (fun cdv A outer s H vs Q E hr h => ?_)
  · obtain ⟨z, rfl, _⟩ := h
    rfl
  · obtain ⟨z, rfl, hz, q⟩ := h
    refine ⟨_, (pss_cons (ps_set (i := 1) sc_law_good_name.nd rfl (.inl rfl) (pe_lst (pa_cons pe_str (pa_cons pe_str (pa_cons pe_str (pa_cons pe_str (pa_cons pe_str (pa_cons pe_str (pa_cons pe_str (pa_cons pe_str (pa_cons pe_str (pa_cons pe_str (pa_cons pe_str (pa_cons pe_str (pa_cons pe_str pa_nil)))))))))))))))
      (pss_cons (ps_if (PW.pt (pw_or (pt_not (pt_val (pe_callB call_isi (by rfl) T.isinstance (by decide +kernel) (pa_cons (pv 0) (pa_cons (pe_bltn (v := .ty "str") (u := .type "str") (by rfl) T.str (by decide +kernel) rfl) pa_nil))))) (pw_or (pt_cmpR op_lt (pe_callB call_len_str (by rfl) T.len PySem.boot_len (pa_cons (pv 0) pa_nil)) pe_int (nomark _)) (pw_or (pt_cmpR op_gt (pe_callB call_len_str (by rfl) T.len PySem.boot_len (pa_cons (pv 0) pa_nil)) pe_int (nomark _)) (pw_or1 (pt_cmpR op_in_seq (pv 0) (pv 1) (by rfl)))))))
        (pss_one (ps_ret pe_bl))
        pss_nil)
      (pss_one (ps_ret (pe_cmpR (SAY.op_eqNil hr.units) (pe_lc (own := [("_law_sign_here", 2)]) (g := gName 2) rfl sc_law_good_name.nd (pi_str (pv 0)) (blkOk_by (own := [("_law_sign_here", 2)]) (N := ["_law_thing", "_law_words", "_law_sign_here"]) (sc := defScope s_law_good_name) (by decide +kernel)) (fun _ _ _ _ _ => (pg_name (i := 2) sc_law_good_name.nd rfl (.inl rfl))) (fun _ _ _ _ _ => (pts_one (pt_cmpR op_notIn_sign (pv 2) pe_str (by rfl)))) (fun _ _ _ _ _ => (pv 2))) (pe_lst pa_nil) (nomark _)))))), ?_⟩
    refine ⟨by show 13 ≤ sizeLine; decide, fun l hl => ?_⟩
    have s0 : Same H (L2.upd H l (.lst (wordsL.map V.str))) := same_upd hl
    have hl0 : (L2.upd H l (.lst (wordsL.map V.str))) l = some (.lst (wordsL.map V.str)) := upd_same
    refine ⟨_, rfl, _, _, _, _, true, rfl, .ty "str", .base (.str _), kit_ty (by decide +kernel), true, rfl, iteF ?_⟩
    refine ⟨_, rfl, z, rfl, szOk (by omega), _, _, rfl, rfl, _, rfl, ite2 (fun e => ?_) (fun e => ?_)⟩
    · have := q _ s0
      rw [nm_len fun h => by have := of_decide_eq_true e; omega] at this
      exact iteT this
    · refine ⟨_, rfl, z, rfl, szOk (by omega), _, _, rfl, rfl, _, rfl, ite2 (fun e2 => ?_) (fun e2 => ?_)⟩
      · have := q _ s0
        rw [nm_len fun h => by have := of_decide_eq_true e2; omega] at this
        exact iteT this
      · have h1 : 1 ≤ z.length := by
          have : ¬ ((z.length : Int) < 1) := fun k => e (decide_eq_true k)
          omega
        have h2 : z.length ≤ 8 := by
          have : ¬ ((8 : Int) < (z.length : Int)) := fun k => e2 (decide_eq_true k)
          omega
        refine ⟨_, rfl, _, rfl, l, _, rfl, .inl (SqL.of hl0), rfl, flat_str _, _, rfl, ?_⟩
        rw [inV_str]
        refine ite2 (fun e3 => ?_) (fun e3 => ?_)
        · have := q _ s0
          rw [nm_word (of_decide_eq_true e3)] at this
          exact this
        have h3 : z ∉ wordsL := fun k => e3 (decide_eq_true k)
        have hDn : ∀ D, (L2.upd H l (.lst (wordsL.map V.str))) D = none → H D = none := fun D hD => by
          cases e : H D with
          | none => rfl
          | some o => exact nomatch hD.symm.trans (s0 _ _ e)
        refine ⟨_, rfl, z, rfl, fun D hD => lc_it walk_str (fun i H' => ∃ gs : List Str, Same H H' ∧ H' D = some (.lst (gs.map V.str)) ∧ gs.length ≤ i ∧ (decide (gs = []) && (z.cps.toList.drop i).all (fun c => decide (c ∈ lettersS.cps.toList))) = z.cps.toList.all fun c => decide (c ∈ lettersS.cps.toList))
          ⟨[], s0.trans (same_upd hD), upd_same, Nat.le_refl _, rfl⟩ (fun _ _ _ _ => trivial) ?_ ?_⟩
        · have hDH := hDn D hD
          rintro i x H1 H2 hi ⟨gs, s1, hD1, lg, eg⟩ ⟨rfl, c, hc, rfl⟩
          rw [all_drop hc] at eg
          refine ⟨rfl, _, rfl, c, lettersS, rfl, rfl, _, rfl, ite2 (fun e5 => ⟨_, rfl, _, hD1, szLt (by rw [List.length_map]; have : z.cps.size = z.length := rfl; omega), gs ++ [⟨#[c]⟩], smut s1 hDH, ?_, ?_, ?_⟩) (fun e5 => ⟨gs, s1, hD1, by omega, ?_⟩)⟩
          · rw [upd_same, List.map_append]
            rfl
          · rw [List.length_append]
            show gs.length + 1 ≤ i + 1
            omega
          · rw [decide_eq_false (notdec e5), Bool.false_and, Bool.and_false] at eg
            rw [← eg, decide_eq_false (by simp), Bool.false_and]
          · rw [decide_eq_true (dec_of e5), Bool.true_and] at eg
            exact eg
        · rintro H1 ⟨gs, s1, hD1, lg, eg⟩
          refine ⟨Nat.zero_le _, fun p hp => ⟨D, p, _, rfl, rfl, SqL.of (same_upd hp _ _ hD1), SqL.of upd_same, ?_⟩⟩
          rw [List.drop_of_length_le (by rw [Array.length_toList]; exact Nat.le_refl _)] at eg
          have e : nmB z = (gs.map V.str).isEmpty := by
            rw [nm_rest h1 h2 h3, ← eg]
            cases gs <;> rfl
          rw [← e]
          exact q _ (s1.trans (same_upd hp))
end

/-! ### what a text of a machine says, by the program and by the law -/
def mapO {α β : Type} (f : α → Option β) : List α → Option (List β)
  | [] => some []
  | x :: r => match f x with
    | none => none
    | some y => match mapO f r with
      | none => none
      | some ys => some (y :: ys)
def filO {β : Type} (p : β → Bool) : Option β → Option β
  | some y => if p y = true then some y else none
  | none => none
section
variable {α β : Type} {f : α → Option β}
theorem mapO_none {x : α} {r : List α} (h : f x = none) : mapO f (x :: r) = none := by
  unfold mapO
  rw [h]
theorem mapO_some {x : α} {r : List α} {y : β} (h : f x = some y) : mapO f (x :: r) = (mapO f r).map (y :: ·) := by
  conv => lhs; unfold mapO
  rw [h]
  cases mapO f r <;> rfl
theorem mapO_len : ∀ {l : List α} {ys : List β}, mapO f l = some ys → ys.length = l.length
  | [], _, h => by
    cases h
    rfl
  | x :: r, ys, h => by
    cases e : f x with
    | none =>
      rw [mapO_none e] at h
      cases h
    | some y =>
      rw [mapO_some e] at h
      cases e2 : mapO f r with
      | none =>
        rw [e2] at h
        cases h
      | some z =>
        rw [e2] at h
        cases h
        rw [List.length_cons, List.length_cons, mapO_len e2]
theorem mapO_all {p : β → Prop} : ∀ {l : List α} {ys : List β}, mapO f l = some ys → (∀ x ∈ l, ∀ y, f x = some y → p y) → ∀ y ∈ ys, p y
  | [], _, h, _ => by
    cases h
    exact fun y hy => absurd hy List.not_mem_nil
  | x :: r, ys, h, hp => by
    cases e : f x with
    | none =>
      rw [mapO_none e] at h
      cases h
    | some y =>
      rw [mapO_some e] at h
      cases e2 : mapO f r with
      | none =>
        rw [e2] at h
        cases h
      | some z =>
        rw [e2] at h
        cases h
        intro v hv
        rcases List.mem_cons.mp hv with rfl | hv
        · exact hp x List.mem_cons_self _ e
        · exact mapO_all e2 (fun a ha => hp a (List.mem_cons_of_mem _ ha)) v hv
theorem mapO_congr {g : α → Option β} : ∀ {l : List α}, (∀ x ∈ l, f x = g x) → mapO f l = mapO g l
  | [], _ => rfl
  | x :: r, h => by
    have e := h x List.mem_cons_self
    have ih := mapO_congr (l := r) fun a ha => h a (List.mem_cons_of_mem _ ha)
    cases e2 : g x with
    | none => rw [mapO_none e2, mapO_none (e.trans e2)]
    | some y => rw [mapO_some e2, mapO_some (e.trans e2), ih]
/-- one turn of a loop that goes on or ends with nothing -/
theorem mapO_at {l : List α} {i : Nat} {x : α} {acc : List β} (e : mapO f l = (mapO f (l.drop i)).map (acc ++ ·)) (h : l[i]? = some x) :
    (f x = none → mapO f l = none) ∧ ∀ y, f x = some y → mapO f l = (mapO f (l.drop (i + 1))).map ((acc ++ [y]) ++ ·) := by
  obtain ⟨hi, rfl⟩ := List.getElem?_eq_some_iff.mp h
  rw [List.drop_eq_getElem_cons hi] at e
  refine ⟨fun k => ?_, fun y k => ?_⟩
  · rw [mapO_none k] at e
    exact e
  · rw [mapO_some k, Option.map_map] at e
    rw [e]
    congr 1
    funext z
    show acc ++ y :: z = acc ++ [y] ++ z
    rw [List.append_assoc]
    rfl
theorem mapO_end {l : List α} {acc : List β} {i : Nat} (hi : l.length ≤ i) (e : mapO f l = (mapO f (l.drop i)).map (acc ++ ·)) : mapO f l = some acc := by
  rw [List.drop_of_length_le hi] at e
  rw [e]
  show some (acc ++ []) = some acc
  rw [List.append_nil]
theorem mapO_filter {p : β → Bool} : ∀ l : List α, mapO (fun x => filO p (f x)) l = filO (fun L => L.all p) (mapO f l)
  | [] => rfl
  | x :: r => by
    have ih := mapO_filter (p := p) r
    cases e : f x with
    | none =>
      rw [mapO_none (f := f) e, mapO_none]
      · rfl
      · rw [e]
        rfl
    | some y =>
      rw [mapO_some (f := f) e]
      by_cases hp : p y = true
      · rw [mapO_some (y := y) (by rw [e]; exact if_pos hp), ih]
        cases mapO f r with
        | none => rfl
        | some L =>
          show Option.map _ (if L.all p = true then some L else none) = if (y :: L).all p = true then some (y :: L) else none
          rw [List.all_cons, hp, Bool.true_and]
          split <;> rfl
      · rw [mapO_none (by rw [e]; exact if_neg hp)]
        cases mapO f r with
        | none => rfl
        | some L =>
          show none = if (y :: L).all p = true then some (y :: L) else none
          rw [List.all_cons, eq_false_of_ne_true hp, Bool.false_and]
          rfl
end
def preW : List Str → List Str
  | [] => []
  | x :: r => if x = gtS then [] else x :: preW r
def postW : List Str → List Str
  | [] => []
  | x :: r => if x = gtS then r else postW r
theorem pre_post : ∀ {ws : List Str}, gtS ∈ ws → ws = preW ws ++ gtS :: postW ws
  | x :: r, h => by
    by_cases e : x = gtS
    · rw [show preW (x :: r) = [] from if_pos e, show postW (x :: r) = r from if_pos e, e]
      rfl
    · rw [show preW (x :: r) = x :: preW r from if_neg e, show postW (x :: r) = postW r from if_neg e]
      have : gtS ∈ r := by
        rcases List.mem_cons.mp h with h | h
        · exact absurd h.symm e
        · exact h
      exact congrArg (x :: ·) (pre_post this)
theorem pre_not : ∀ ws : List Str, gtS ∉ preW ws
  | [] => List.not_mem_nil
  | x :: r => by
    by_cases e : x = gtS
    · rw [show preW (x :: r) = [] from if_pos e]
      exact List.not_mem_nil
    · rw [show preW (x :: r) = x :: preW r from if_neg e]
      intro h
      rcases List.mem_cons.mp h with h | h
      · exact e h.symm
      · exact pre_not r h
def plc (n : Nat) (w : Str) : Option Int := ((List.range n).find? fun i => decide (sI ((i : Nat) : Int) = w)).map fun i => ((i : Nat) : Int)
theorem plc_lt {n : Nat} {w : Str} {i : Int} (h : plc n w = some i) : 0 ≤ i ∧ i < n := by
  unfold plc at h
  cases e : (List.range n).find? (fun i => decide (sI ((i : Nat) : Int) = w)) with
  | none =>
    rw [e] at h
    cases h
  | some j =>
    rw [e] at h
    cases h
    have := List.mem_range.mp (List.mem_of_find?_eq_some e)
    show 0 ≤ ((j : Nat) : Int) ∧ ((j : Nat) : Int) < n
    omega
def lineR (pl : Str → Option Int) (ws : List Str) : Option (List Int × List Str) := if gtS ∈ ws then (mapO pl (postW ws)).map fun ns => (ns, preW ws) else none
def setGo (many : Int) : Int → List Int → Bool
  | _, [] => true
  | last, n :: r => decide (last + 1 ≤ n) && decide (n < many) && setGo many n r
def setB (many : Int) (ns : List Int) : Bool := decide ((ns.length : Int) ≤ many) && setGo many (-1) ns
def ltS (x y : Str) : Bool := decide (x.cps.toList < y.cps.toList)
def namesGo : Str → List Str → Bool
  | _, [] => true
  | last, z :: r => nmB z && ltS last z && namesGo z r
def namesB (most : Int) (zs : List Str) : Bool := decide ((zs.length : Int) ≤ most) && namesGo (Str.ofString "") zs
def machB (steps : List (List Int)) (marks : List (List Str)) : Bool := decide (1 ≤ steps.length) && decide (steps.length ≤ 40) && steps.all (setB steps.length) && marks.all (namesB 8)
def risG {α : Type} (lt : α → α → Bool) : List α → Bool
  | a :: b :: r => lt a b && risG lt (b :: r)
  | _ => true
def ltI (x y : Int) : Bool := decide (x < y)
def lineL (n : Nat) (ws : List Str) : Option (List Int × List Str) := if gtS ∈ ws then (if ((preW ws).all nmB && decide ((preW ws).length ≤ 8)) = true then match mapO (plc n) (postW ws) with
    | none => none
    | some ns => if (risG ltS (preW ws) && risG ltI ns) = true then some (ns, preW ws) else none
  else none) else none
abbrev MR := Option (List (List Int) × List (List Str))
def unz (L : List (List Int × List Str)) : List (List Int) × List (List Str) := (L.map (·.1), L.map (·.2))
def readL (lines : List Str) : MR := if lines.length ≤ 40 then (mapO (fun z => lineL lines.length (Txt.split z spS)) lines).map unz else none
def finR : Option (List (List Int × List Str)) → MR
  | none => none
  | some L => if machB (unz L).1 (unz L).2 = true then some (unz L) else none
def readR (pl : Str → Option Int) (lines : List Str) : MR := finR (mapO (fun z => lineR pl (Txt.split z spS)) lines)
theorem setGo_eq (many : Int) : ∀ (ns : List Int) (last : Int), (∀ n ∈ ns, n < many) → setGo many last ns = risG ltI (last :: ns)
  | [], _, _ => rfl
  | n :: r, last, h => by
    show (decide (last + 1 ≤ n) && decide (n < many) && setGo many n r) = (ltI last n && risG ltI (n :: r))
    rw [decide_eq_true (h n List.mem_cons_self), Bool.and_true, setGo_eq many r n fun m hm => h m (List.mem_cons_of_mem _ hm)]
    rfl
theorem setGo_len (many : Int) : ∀ (ns : List Int) (last : Int), last < many → setGo many last ns = true → (ns.length : Int) ≤ many - last - 1
  | [], _, h, _ => by
    show ((0 : Nat) : Int) ≤ _
    omega
  | n :: r, last, h, e => by
    have e : (decide (last + 1 ≤ n) && decide (n < many) && setGo many n r) = true := e
    rw [Bool.and_eq_true, Bool.and_eq_true] at e
    have h1 := of_decide_eq_true e.1.1
    have h2 := of_decide_eq_true e.1.2
    have := setGo_len many r n h2 e.2
    rw [List.length_cons]
    omega
theorem setGo_all (many : Int) : ∀ (ns : List Int) (last : Int), setGo many last ns = true → (∀ n ∈ ns, last < n ∧ n < many) ∧ ns.Pairwise (· < ·)
  | [], _, _ => ⟨fun n hn => absurd hn List.not_mem_nil, List.Pairwise.nil⟩
  | n :: r, last, e => by
    have e : (decide (last + 1 ≤ n) && decide (n < many) && setGo many n r) = true := e
    rw [Bool.and_eq_true, Bool.and_eq_true] at e
    have h1 := of_decide_eq_true e.1.1
    have h2 := of_decide_eq_true e.1.2
    obtain ⟨a, b⟩ := setGo_all many r n e.2
    refine ⟨fun m hm => ?_, List.pairwise_cons.mpr ⟨fun m hm => (a m hm).1, b⟩⟩
    rcases List.mem_cons.mp hm with rfl | hm
    · exact ⟨by omega, h2⟩
    · have := a m hm
      exact ⟨by omega, this.2⟩
theorem setB_rise {many : Int} {ns : List Int} (h : setB many ns = true) : RiseI many ns := by
  unfold setB at h
  rw [Bool.and_eq_true] at h
  obtain ⟨a, b⟩ := setGo_all many ns (-1) h.2
  exact ⟨b, fun n hn => by have := a n hn; omega⟩
theorem risG_drop {lt : Int → Int → Bool} {x : Int} {ns : List Int} (h : ∀ n ∈ ns, lt x n = true) : risG lt (x :: ns) = risG lt ns := by
  cases ns with
  | nil => rfl
  | cons n r =>
    show (lt x n && risG lt (n :: r)) = _
    rw [h n List.mem_cons_self, Bool.true_and]
theorem setB_eq {many : Int} {ns : List Int} (hm : 0 ≤ many) (h : ∀ n ∈ ns, 0 ≤ n ∧ n < many) : setB many ns = risG ltI ns := by
  have e := setGo_eq many ns (-1) fun n hn => (h n hn).2
  rw [risG_drop fun n hn => decide_eq_true (by have := h n hn; omega)] at e
  unfold setB
  cases k : setGo many (-1) ns with
  | false => rw [Bool.and_false, ← e, k]
  | true =>
    have := setGo_len many ns (-1) (by omega) k
    rw [← e, k, decide_eq_true (by omega)]
    rfl
theorem namesGo_eq : ∀ (zs : List Str) (last : Str), namesGo last zs = (zs.all nmB && risG ltS (last :: zs))
  | [], _ => rfl
  | z :: r, last => by
    show (nmB z && ltS last z && namesGo z r) = ((nmB z && r.all nmB) && (ltS last z && risG ltS (z :: r)))
    rw [namesGo_eq r z]
    cases nmB z <;> cases ltS last z <;> cases r.all nmB <;> rfl
theorem nil_lt {z : Str} (h : nmB z = true) : ltS (Str.ofString "") z = true := by
  have l1 := (nm_good.mp h).lo
  refine decide_eq_true ?_
  have e0 : (Str.ofString "").cps.toList = [] := by decide +kernel
  rw [e0]
  have l2 : z.cps.toList.length = z.length := by simp [Str.length]
  cases e : z.cps.toList with
  | nil =>
    rw [e] at l2
    simp at l2
    omega
  | cons c r => exact List.Lex.nil
theorem names_eq (zs : List Str) : namesGo (Str.ofString "") zs = (zs.all nmB && risG ltS zs) := by
  rw [namesGo_eq]
  cases zs with
  | nil => rfl
  | cons z r =>
    show (nmB z && r.all nmB && (ltS (Str.ofString "") z && risG ltS (z :: r))) = (nmB z && r.all nmB && risG ltS (z :: r))
    cases h : nmB z with
    | false => rfl
    | true =>
      rw [nil_lt h]
      cases r.all nmB <;> cases risG ltS (z :: r) <;> rfl
theorem ltS_trans {a b c : Str} (h1 : ltS a b = true) (h2 : ltS b c = true) : ltS a c = true :=
  decide_eq_true (List.lt_trans (of_decide_eq_true h1) (of_decide_eq_true h2))
theorem namesGo_all : ∀ (zs : List Str) (last : Str), namesGo last zs = true → (∀ z ∈ zs, ltS last z = true ∧ GoodName z) ∧ zs.Pairwise (fun x y => x.cps.toList < y.cps.toList)
  | [], _, _ => ⟨fun n hn => absurd hn List.not_mem_nil, List.Pairwise.nil⟩
  | z :: r, last, e => by
    have e : (nmB z && ltS last z && namesGo z r) = true := e
    rw [Bool.and_eq_true, Bool.and_eq_true] at e
    obtain ⟨a, b⟩ := namesGo_all r z e.2
    refine ⟨fun m hm => ?_, List.pairwise_cons.mpr ⟨fun m hm => of_decide_eq_true (a m hm).1, b⟩⟩
    rcases List.mem_cons.mp hm with rfl | hm
    · exact ⟨e.1.2, nm_good.mp e.1.1⟩
    · exact ⟨ltS_trans e.1.2 (a m hm).1, (a m hm).2⟩
theorem namesB_rise {zs : List Str} (h : namesB 8 zs = true) : RiseS zs ∧ zs.length ≤ 8 := by
  unfold namesB at h
  rw [Bool.and_eq_true] at h
  obtain ⟨a, b⟩ := namesGo_all zs _ h.2
  have := of_decide_eq_true h.1
  exact ⟨⟨b, fun z hz => (a z hz).2⟩, by omega⟩
theorem mach_good {steps : List (List Int)} {marks : List (List Str)} (hl : steps.length = marks.length) (h : machB steps marks = true) : GoodMach steps marks := by
  unfold machB at h
  rw [Bool.and_eq_true, Bool.and_eq_true, Bool.and_eq_true, List.all_eq_true, List.all_eq_true] at h
  exact ⟨hl, of_decide_eq_true h.1.1.1, of_decide_eq_true h.1.1.2, fun r hr => setB_rise (h.1.2 r hr), fun r hr => namesB_rise (h.2 r hr)⟩
theorem readR_good {pl : Str → Option Int} {lines : List Str} {s : List (List Int)} {m : List (List Str)} (h : readR pl lines = some (s, m)) : GoodMach s m := by
  unfold readR finR at h
  cases e : mapO (fun z => lineR pl (Txt.split z spS)) lines with
  | none =>
    rw [e] at h
    cases h
  | some L =>
    rw [e] at h
    dsimp only at h
    split at h
    · rename_i k
      cases h
      exact mach_good (by simp [unz]) k
    · cases h
def okL (n : Nat) (p : List Int × List Str) : Bool := setB n p.1 && namesB 8 p.2
theorem lineL_eq (n : Nat) (ws : List Str) : lineL n ws = filO (okL n) (lineR (plc n) ws) := by
  unfold lineL lineR
  by_cases hg : gtS ∈ ws
  · rw [if_pos hg, if_pos hg]
    cases e : mapO (plc n) (postW ws) with
    | none =>
      dsimp only [Option.map]
      split <;> rfl
    | some ns =>
      have hb := mapO_all (p := fun i : Int => 0 ≤ i ∧ i < n) e fun x _ y hy => plc_lt hy
      dsimp only [Option.map]
      have k : okL n (ns, preW ws) = (((preW ws).all nmB && decide ((preW ws).length ≤ 8)) && (risG ltS (preW ws) && risG ltI ns)) := by
        unfold okL namesB
        rw [setB_eq (by omega) hb, names_eq]
        have e8 : decide (((preW ws).length : Int) ≤ 8) = decide ((preW ws).length ≤ 8) := by
          by_cases h8 : (preW ws).length ≤ 8
          · rw [decide_eq_true h8, decide_eq_true (by omega)]
          · rw [decide_eq_false h8, decide_eq_false (by omega)]
        rw [e8]
        cases (preW ws).all nmB <;> cases decide ((preW ws).length ≤ 8) <;> cases risG ltS (preW ws) <;> cases risG ltI ns <;> rfl
      show _ = if okL n (ns, preW ws) = true then some (ns, preW ws) else none
      rw [k]
      cases ((preW ws).all nmB && decide ((preW ws).length ≤ 8)) with
      | false => rfl
      | true =>
        rw [if_pos rfl, Bool.true_and]
  · rw [if_neg hg, if_neg hg]
    rfl
theorem read_eq {pl : Str → Option Int} {lines : List Str} (h1 : 1 ≤ lines.length) (hp : lines.length ≤ 40 → ∀ w, pl w = plc lines.length w) : readR pl lines = readL lines := by
  unfold readL
  by_cases h : lines.length ≤ 40
  · have hp := hp h
    have hp : pl = plc lines.length := funext hp
    subst hp
    rw [if_pos h, show (fun z => lineL lines.length (Txt.split z spS)) = fun z => filO (okL lines.length) (lineR (plc lines.length) (Txt.split z spS)) from funext fun z => lineL_eq _ _,
      mapO_filter (f := fun z => lineR (plc lines.length) (Txt.split z spS)) (p := okL lines.length) lines]
    unfold readR finR
    cases e : mapO (fun z => lineR (plc lines.length) (Txt.split z spS)) lines with
    | none => rfl
    | some L =>
      have hl := mapO_len e
      dsimp only
      have k : machB (unz L).1 (unz L).2 = L.all (okL lines.length) := by
        unfold machB unz
        rw [List.length_map, hl, decide_eq_true h1, decide_eq_true h, List.all_map, List.all_map]
        unfold okL
        show (true && true && L.all (fun p => setB lines.length p.1) && L.all (fun p => namesB 8 p.2)) = L.all fun p => setB lines.length p.1 && namesB 8 p.2
        rw [Bool.and_self, Bool.true_and]
        generalize lines.length = n
        clear e hl
        induction L with
        | nil => rfl
        | cons p r ih =>
          rw [List.all_cons, List.all_cons, List.all_cons, ← ih]
          cases setB n p.1 <;> cases namesB 8 p.2 <;> cases r.all (fun p => setB n p.1) <;> rfl
      rw [k]
      show _ = Option.map unz (if L.all (okL lines.length) = true then some L else none)
      split <;> rfl
  · rw [if_neg h]
    unfold readR finR
    cases e : mapO (fun z => lineR pl (Txt.split z spS)) lines with
    | none => rfl
    | some L =>
      have hl := mapO_len e
      dsimp only
      rw [if_neg]
      intro k
      have := (mach_good (by simp [unz]) k).hi
      simp [unz] at this
      omega

/-! ### sets, names and machines, or none -/
section
variable {P : Program} {w : World} {K : PySem.W.Frag} {mg : Str → Option Value} {base : Heap}
theorem row_bool {n : Nat} {hi : Int} : (decide ((0 : Int) ≤ (n : Int)) && decide ((n : Int) ≤ hi)) = decide ((n : Int) ≤ hi) := by
  rw [decide_eq_true (show (0 : Int) ≤ (n : Int) by omega), Bool.true_and]
def spSetB (K : PySem.W.Frag) : Sp := fun vs H Q _ => ∃ (a : Addr) (ns : List Int) (many : Int), vs = [.ref a, .int many] ∧ SqT K H a (ns.map V.int) ∧ Q (.bl (setB many ns)) H
theorem ok_setB {f : Addr} {fd : FuncData} (F : Fun K "is_set" "is_set" sis_set f fd) (cis_row : Cal P w K mg base 1 "is_row" ["thing", "least", "most"] (spRow K)) (cis_number : Cal P w K mg base 2 "is_number" ["thing", "low", "high"] spNumber) :
    FnOk P w K mg base CX0 3 f fd ["thing", "many"] (spSetB K) := by
  refine F.ok scis_set (fun vs H Q E h => ?_) (fun cdv A outer s H vs Q E hr h => ?_)
  · obtain ⟨a, ns, many, rfl, _⟩ := h
    rfl
  · obtain ⟨a, ns, many, rfl, hx, q⟩ := h
    refine ⟨_, (pss_cons (ps_if (pt_not (pt_val (pe_call cis_row.G (hr.mono (by decide)) (by rfl) cis_row.g cis_row.kp cis_row.b .nil pass0 (pa_cons (pv 0) (pa_cons pe_int (pa_cons (pv 1) pa_nil))))))
        (pss_one (ps_ret pe_bl))
        pss_nil)
      (pss_cons (ps_set (i := 2) scis_set.nd rfl (.inl rfl) (pe_un un_neg pe_int))
      (pss_cons (ps_for PassesOwn.never rfl (pi_tup (pv 0)) (pg_name (i := 3) scis_set.nd rfl (.inl rfl))
        (pss_cons (ps_if (pt_not (pt_val (pe_call cis_number.G hr (by rfl) cis_number.g cis_number.kp cis_number.b .nil pass0 (pa_cons (pv 3) (pa_cons (pe_op op_add (pv 2) pe_int) (pa_cons (pv 1) pa_nil))))))
          (pss_one (ps_ret pe_bl))
          pss_nil)
        (pss_one (ps_set (i := 2) scis_set.nd rfl (.inl rfl) (pv 3)))))
      (pss_one (ps_ret pe_bl))))), ?_⟩
    refine ⟨_, rfl, _, rfl, a, _, 0, many, rfl, hx, _, rfl, ?_⟩
    unfold setB at q
    rw [List.length_map, row_bool]
    cases e1 : decide ((ns.length : Int) ≤ many) with
    | false =>
      rw [e1, Bool.false_and] at q
      exact iteT q
    | true =>
    rw [e1, Bool.true_and] at q
    refine iteF ⟨_, rfl, _, rfl, a, rfl, ⟨_, hx⟩, for_tup (K := K) (a := a) (xs := ns.map V.int) (fun i σ H' => ∃ last y, σ = [some (.ref a), some (.int many), some (.int last), y] ∧ H' = H ∧ setGo many (-1) ns = setGo many last (ns.drop i)) ⟨_, _, rfl, rfl, rfl⟩ (fun i σ H' _ ⟨_, _, _, e, _⟩ => by rw [e]; exact hx) ?_ ?_⟩
    · rintro i x σ H1 hi ⟨last, y, rfl, rfl, e2⟩
      obtain ⟨n, hn, rfl⟩ := map_get hi
      obtain ⟨hil, en⟩ := List.getElem?_eq_some_iff.mp hn
      rw [List.drop_eq_getElem_cons hil, en] at e2
      have e2 : setGo many (-1) ns = (decide (last + 1 ≤ n) && decide (n < many) && setGo many n (ns.drop (i + 1))) := e2
      refine ⟨_, rfl, _, rfl, _, _, rfl, rfl, _, rfl, n, _, many, rfl, _, rfl, ?_⟩
      cases e3 : (decide (last + 1 ≤ n) && decide (n < many)) with
      | false =>
        rw [e3, Bool.false_and] at e2
        rw [e2] at q
        exact iteT q
      | true =>
        rw [e3, Bool.true_and] at e2
        exact iteF ⟨_, rfl, n, some (V.int n), rfl, rfl, e2⟩
    · rintro σ H1 ⟨last, y, rfl, rfl, e2⟩
      rw [List.length_map, List.drop_length] at e2
      rw [e2] at q
      exact q
def spNamesB (K : PySem.W.Frag) : Sp := fun vs H Q _ => ∃ (a : Addr) (zs : List Str) (most : Int), vs = [.ref a, .int most] ∧ SqT K H a (zs.map V.str) ∧ (∀ z ∈ zs, z.length ≤ 90000) ∧ ∀ H', Same H H' → Q (.bl (namesB most zs)) H'
theorem ok_namesB {f : Addr} {fd : FuncData} (F : Fun K "are_names" "are_names" sare_names f fd) (cis_row : Cal P w K mg base 1 "is_row" ["thing", "least", "most"] (spRow K)) (cis_name : Cal P w K mg base 1 "is_name" ["thing"] spNameS) :
    FnOk P w K mg base CX0 2 f fd ["thing", "most"] (spNamesB K) := by
  refine F.ok scare_names (fun vs H Q E h => ?_) (fun cdv A outer s H vs Q E hr h => ?_)
  · obtain ⟨a, zs, most, rfl, _⟩ := h
    rfl
  · obtain ⟨a, zs, most, rfl, hx, hz, q⟩ := h
    refine ⟨_, (pss_cons (ps_if (pt_not (pt_val (pe_call cis_row.G hr (by rfl) cis_row.g cis_row.kp cis_row.b .nil pass0 (pa_cons (pv 0) (pa_cons pe_int (pa_cons (pv 1) pa_nil))))))
        (pss_one (ps_ret pe_bl))
        pss_nil)
      (pss_cons (ps_set (i := 2) scare_names.nd rfl (.inl rfl) pe_str)
      (pss_cons (ps_for PassesOwn.never rfl (pi_tup (pv 0)) (pg_name (i := 3) scare_names.nd rfl (.inl rfl))
        (pss_cons (ps_if (PW.pt (pw_or (pt_not (pt_val (pe_call cis_name.G hr (by rfl) cis_name.g cis_name.kp cis_name.b .nil pass0 (pa_cons (pv 3) pa_nil)))) (pw_or1 (pt_cmpR op_le_str (pv 3) (pv 2) (nomark _)))))
          (pss_one (ps_ret pe_bl))
          pss_nil)
        (pss_one (ps_set (i := 2) scare_names.nd rfl (.inl rfl) (pv 3)))))
      (pss_one (ps_ret pe_bl))))), ?_⟩
    refine ⟨_, rfl, _, rfl, a, _, 0, most, rfl, hx, _, rfl, ?_⟩
    unfold namesB at q
    rw [List.length_map, row_bool]
    cases e1 : decide ((zs.length : Int) ≤ most) with
    | false =>
      rw [e1, Bool.false_and] at q
      exact iteT (q H (Same.refl _))
    | true =>
    rw [e1, Bool.true_and] at q
    refine iteF ⟨_, rfl, a, rfl, ⟨_, hx⟩, for_tup (K := K) (a := a) (xs := zs.map V.str) (fun i σ H' => ∃ (last : Str) (y : Option V), σ = [some (.ref a), some (.int most), some (.str last), y] ∧ Same H H' ∧ namesGo (Str.ofString "") zs = namesGo last (zs.drop i)) ⟨_, _, rfl, Same.refl _, rfl⟩ (fun i σ H' _ ⟨_, _, _, e, _⟩ => ssqt e hx) ?_ ?_⟩
    · rintro i x σ H1 hi ⟨last, y, rfl, s1, e2⟩
      obtain ⟨n, hn, rfl⟩ := map_get hi
      obtain ⟨hil, en⟩ := List.getElem?_eq_some_iff.mp hn
      rw [List.drop_eq_getElem_cons hil, en] at e2
      have e2 : namesGo (Str.ofString "") zs = (nmB n && ltS last n && namesGo n (zs.drop (i + 1))) := e2
      refine ⟨_, rfl, n, rfl, hz n (List.mem_of_getElem? hn), fun H2 s2 => ⟨_, rfl, ?_⟩⟩
      cases e3 : nmB n with
      | false =>
        rw [e3, Bool.false_and, Bool.false_and] at e2
        rw [e2] at q
        exact iteT (q H2 (s1.trans s2))
      | true =>
        rw [e3, Bool.true_and] at e2
        refine iteF ⟨_, rfl, _, rfl, n, last, rfl, rfl, _, rfl, ?_⟩
        have e4 : decide (last.cps.toList < n.cps.toList) = ltS last n := rfl
        rw [e4]
        cases e5 : ltS last n with
        | false =>
          rw [e5, Bool.false_and] at e2
          rw [e2] at q
          exact iteT (q H2 (s1.trans s2))
        | true =>
          rw [e5, Bool.true_and] at e2
          exact iteF ⟨_, rfl, n, some (V.str n), rfl, s1.trans s2, e2⟩
    · rintro σ H1 ⟨last, y, rfl, s1, e2⟩
      rw [List.length_map, List.drop_length] at e2
      rw [e2] at q
      exact q H1 s1
def spMachB (K : PySem.W.Frag) : Sp := fun vs H Q _ => ∃ (m : Addr) (steps : List (List Int)) (marks : List (List Str)), vs = [.ref m] ∧ MachAt K H m steps marks ∧ steps.length = marks.length ∧ (∀ zs ∈ marks, ∀ z ∈ zs, z.length ≤ 90000) ∧ ∀ H', Same H H' → Q (.bl (machB steps marks)) H'
theorem ok_machB {f : Addr} {fd : FuncData} (F : Fun K "is_machine" "is_machine" sis_machine f fd) (T : Bi mg) (cis_row : Cal P w K mg base 1 "is_row" ["thing", "least", "most"] (spRow K)) (cis_set : Cal P w K mg base 3 "is_set" ["thing", "many"] (spSetB K))
    (care_names : Cal P w K mg base 2 "are_names" ["thing", "most"] (spNamesB K)) : FnOk P w K mg base CX0 4 f fd ["thing"] (spMachB K) := by
  refine F.ok scis_machine (fun vs H Q E h => ?_) (fun cdv A outer s H vs Q E hr h => ?_)
  · obtain ⟨m, steps, marks, rfl, _⟩ := h
    rfl
  · obtain ⟨m, steps, marks, rfl, M, g1, hz, q⟩ := h
    obtain ⟨s, k, sa, ka, h1, h2, h3, h4, h5⟩ := M.ex
    have l1 := h4.len
    have l2 := h5.len
    refine ⟨_, (pss_cons (ps_if (PW.pt (pw_or (pt_not (pt_val (pe_call cis_row.G (hr.mono (by decide)) (by rfl) cis_row.g cis_row.kp cis_row.b .nil pass0 (pa_cons (pv 0) (pa_cons pe_int (pa_cons pe_int pa_nil)))))) (pw_or1 (pt_not (pt_val (pe_call cis_row.G (hr.mono (by decide)) (by rfl) cis_row.g cis_row.kp cis_row.b .nil pass0 (pa_cons (pe_ix ix_tup (pv 0) pe_int (fun _ _ => rfl)) (pa_cons pe_int (pa_cons pe_int pa_nil)))))))))
        (pss_one (ps_ret pe_bl))
        pss_nil)
      (pss_cons (ps_asg (pv 0) (pg_tup rfl (pgs_cons (pg_name (i := 1) scis_machine.nd rfl (.inl rfl)) (pgs_cons (pg_name (i := 2) scis_machine.nd rfl (.inl rfl)) pgs_nil))))
      (pss_cons (ps_set (i := 3) scis_machine.nd rfl (.inl rfl) (pe_callB call_len_seq (by rfl) T.len PySem.boot_len (pa_cons (pv 1) pa_nil)))
      (pss_cons (ps_if (pt_not (pt_val (pe_call cis_row.G (hr.mono (by decide)) (by rfl) cis_row.g cis_row.kp cis_row.b .nil pass0 (pa_cons (pv 2) (pa_cons (pv 3) (pa_cons (pv 3) pa_nil))))))
        (pss_one (ps_ret pe_bl))
        pss_nil)
      (pss_cons (ps_for PassesOwn.never rfl (pi_tup (pv 1)) (pg_name (i := 4) scis_machine.nd rfl (.inl rfl))
        (pss_one (ps_if (pt_not (pt_val (pe_call cis_set.G hr (by rfl) cis_set.g cis_set.kp cis_set.b .nil pass0 (pa_cons (pv 4) (pa_cons (pv 3) pa_nil)))))
          (pss_one (ps_ret pe_bl))
          pss_nil)))
      (pss_cons (ps_for PassesOwn.never rfl (pi_tup (pv 2)) (pg_name (i := 5) scis_machine.nd rfl (.inl rfl))
        (pss_one (ps_if (pt_not (pt_val (pe_call care_names.G (hr.mono (by decide)) (by rfl) care_names.g care_names.kp care_names.b .nil pass0 (pa_cons (pv 5) (pa_cons pe_int pa_nil)))))
          (pss_one (ps_ret pe_bl))
          pss_nil)))
      (pss_one (ps_ret pe_bl)))))))), ?_⟩
    refine ⟨_, rfl, m, _, 2, 2, rfl, h1, true, rfl, iteF ⟨_, rfl, m, _, 0, .ref s, rfl, rfl, h1, at_of (j := 0) rfl rfl, s, _, 1, 40, rfl, h2, _, rfl, ?_⟩⟩
    have e1 : (decide ((1 : Int) ≤ ((sa.map V.ref).length : Int)) && decide (((sa.map V.ref).length : Int) ≤ 40)) = (decide (1 ≤ steps.length) && decide (steps.length ≤ 40)) := by
      rw [List.length_map, l1]
      congr 1
      · by_cases h : 1 ≤ steps.length
        · rw [decide_eq_true h, decide_eq_true (by omega)]
        · rw [decide_eq_false h, decide_eq_false (by omega)]
      · by_cases h : steps.length ≤ 40
        · rw [decide_eq_true h, decide_eq_true (by omega)]
        · rw [decide_eq_false h, decide_eq_false (by omega)]
    rw [e1]
    unfold machB at q
    cases e2 : (decide (1 ≤ steps.length) && decide (steps.length ≤ 40)) with
    | false =>
      rw [e2, Bool.false_and, Bool.false_and] at q
      exact iteT (q H (Same.refl _))
    | true =>
    rw [e2, Bool.true_and] at q
    refine iteF ⟨_, rfl, m, _, rfl, h1, rfl, _, _, rfl, _, _, rfl, rfl, ?_⟩
    refine ⟨_, rfl, s, _, rfl, .inr h2, ?_⟩
    refine ⟨_, rfl, _, rfl, _, rfl, k, _, _, _, rfl, h3, _, rfl, ?_⟩
    rw [List.length_map, List.length_map, show (decide ((sa.length : Int) ≤ ka.length) && decide ((ka.length : Int) ≤ sa.length)) = true by rw [decide_eq_true (by omega), decide_eq_true (by omega)] <;> rfl]
    refine iteF ⟨_, rfl, s, rfl, ⟨_, h2⟩, for_tup (K := K) (a := s) (xs := sa.map V.ref) (fun i σ H' => ∃ y z, σ = [some (.ref m), some (.ref s), some (.ref k), some (.int sa.length), y, z] ∧ H' = H ∧ steps.all (setB steps.length) = (steps.drop i).all (setB steps.length)) ⟨none, none, rfl, rfl, rfl⟩ (fun i σ H' _ ⟨_, _, _, e, _⟩ => by rw [e]; exact h2) ?_ ?_⟩
    · rintro i x σ H1 hi ⟨y, z, rfl, rfl, e3⟩
      obtain ⟨a, ha, rfl⟩ := ref_get hi
      obtain ⟨r, hr1, hr2⟩ := h4.get ha
      obtain ⟨hil, en⟩ := List.getElem?_eq_some_iff.mp hr1
      rw [List.drop_eq_getElem_cons hil, en, List.all_cons] at e3
      refine ⟨_, rfl, _, rfl, a, r, _, rfl, hr2, _, rfl, ?_⟩
      rw [l1]
      cases e4 : setB steps.length r with
      | false =>
        rw [e4, Bool.false_and] at e3
        rw [e3, Bool.false_and] at q
        exact iteT (q _ (Same.refl _))
      | true =>
        rw [e4, Bool.true_and] at e3
        exact iteF ⟨_, _, rfl, rfl, e3⟩
    · rintro σ H1 ⟨y, z, rfl, rfl, e3⟩
      rw [List.length_map, l1, List.drop_length] at e3
      rw [e3] at q
      have q : ∀ H', Same H1 H' → Q (.bl (marks.all (namesB 8))) H' := q
      refine ⟨_, rfl, k, rfl, ⟨_, h3⟩, for_tup (K := K) (a := k) (xs := ka.map V.ref) (fun i σ H' => ∃ z, σ = [some (.ref m), some (.ref s), some (.ref k), some (.int sa.length), y, z] ∧ Same H1 H' ∧ marks.all (namesB 8) = (marks.drop i).all (namesB 8)) ⟨_, rfl, Same.refl _, rfl⟩ (fun i σ H' _ ⟨_, _, e, _⟩ => ssqt e h3) ?_ ?_⟩
      · rintro i x σ H2 hi ⟨z, rfl, s2, e4⟩
        obtain ⟨a, ha, rfl⟩ := ref_get hi
        obtain ⟨r, hr1, hr2⟩ := h5.get ha
        obtain ⟨hil, en⟩ := List.getElem?_eq_some_iff.mp hr1
        rw [List.drop_eq_getElem_cons hil, en, List.all_cons] at e4
        refine ⟨_, rfl, a, r, 8, rfl, ssqt s2 hr2, hz r (List.mem_of_getElem? hr1), fun H3 s3 => ⟨_, rfl, ?_⟩⟩
        cases e5 : namesB 8 r with
        | false =>
          rw [e5, Bool.false_and] at e4
          rw [e4] at q
          exact iteT (q _ (s2.trans s3))
        | true =>
          rw [e5, Bool.true_and] at e4
          exact iteF ⟨_, rfl, s2.trans s3, e4⟩
      · rintro σ H2 ⟨z, rfl, s2, e4⟩
        rw [List.length_map, l2, List.drop_length] at e4
        rw [e4] at q
        exact q H2 s2
end

/-! ### own errors -/
structure XCls (K : PySem.W.Frag) (mg : Str → Option Value) (nm : Str) (C : Addr) : Prop where
  g : mg nm = some (.ref C)
  k : PySem.W.keepIn K (.ref C) = true
  b : PySem.W.subIn K (.ref C) (.type "BaseException") = some true
  t : PySem.W.typeIn K (.ref C) = some (.type "type")
  h : PySem.W.hasDictIn K C = true
theorem XCls.r {K : PySem.W.Frag} {mg : Str → Option Value} {nm : Str} {C : Addr} (_ : XCls K mg nm C) : RelV (.ref C) (.ref C) := rfl
/-- the error that is raised -/
structure XRai (K : PySem.W.Frag) (C : Addr) : Prop where
  x : PySem.W.excIn K C [.type "ValueError", .type "Exception", .type "BaseException", .type "object"] "ValueError.__new__" = true
  E : ExcC K C
  s : PySem.W.subIn K (.ref C) (.ref C) = some true
  v : PySem.W.subIn K (.ref C) (.type "ValueError") = some true
theorem XCls.exm {K : PySem.W.Frag} {mg : Str → Option Value} {nm : Str} {C D : Addr} {b : Bool} (c : XCls K mg nm C) (h : PySem.W.subIn K (.ref D) (.ref C) = some b) : PySem.W.exmOne K (.ref D) (.ref C) = some b :=
  PySem.W.exm_ref c.b c.h c.t h
theorem XCls.kit {K : PySem.W.Frag} {mg : Str → Option Value} {nm : Str} {C D : Addr} {b : Bool} (c : XCls K mg nm C) (r : XRai K D) (h : PySem.W.subIn K (.ref D) (.ref C) = some b) : PySem.W.kitOne K (.ref D) (.ref C) = some b := by
  have e := c.exm h
  unfold PySem.W.exmOne at e
  rw [if_pos (by rw [c.b] <;> rfl)] at e
  unfold PySem.W.kitOne
  by_cases q : (Value.ref D == Value.ref C) = true
  · rw [if_pos q]
    have q' : D = C := Value.ref.inj (eq_of_beq q)
    rw [q'] at h r
    rw [r.s] at h
    exact h
  · rw [if_neg q]
    exact e
theorem XRai.kit {K : PySem.W.Frag} {D : Addr} (r : XRai K D) : PySem.W.kitOne K (.ref D) (.type "ValueError") = some true := by
  unfold PySem.W.kitOne PySem.W.kitCls
  rw [if_neg (by intro q; exact absurd (eq_of_beq q) (by intro z; cases z))]
  change (if PySem.W.kitMeta "ValueError" = true then _ else _) = _
  rw [if_pos (by decide +kernel)]
  exact r.v
theorem zc_of {cls : Value} {d : Option Addr} {D : Addr} {oe : Obj} (hz : Zc cls d oe) (hp : cls = .ref D ∧ d = none) : Zc (.ref D) none oe := by
  obtain ⟨rfl, rfl⟩ := hp
  exact hz
theorem pss_when {X : Cx} {sts : List Stmt} {p : Prop} {t : TS} (h : p → PSs X sts t) : PSs X sts (fun D σ H => p ∧ t D σ H) := ⟨fun pins s σ H D I q => (h q.1).run pins s σ H D I q.2⟩
/-- a def that may raise, as callers see it -/
structure CalX (P : Program) (w : World) (K : PySem.W.Frag) (mg : Str → Option Value) (base : Heap) (k : Nat) (x : Str) (ps : List Str) (sp : Sp) where
  f : Addr
  fd : FuncData
  G : FnOk P w K mg base (L2.CX P w) k f fd ps sp
  g : mg x = some (.ref f)
  kp : PySem.W.keepIn K (.ref f) = true
  b : Binds K fd ps []
/-- the raised error, the base of all, two others -/
structure XSet (K : PySem.W.Frag) (mg : Str → Option Value) (nR nA nB : Str) where
  R : Addr
  T : Addr
  A : Addr
  B : Addr
  xR : XCls K mg nR R
  xT : XCls K mg "TreeError" T
  xA : XCls K mg nA A
  xB : XCls K mg nB B
  r : XRai K R
  sT : PySem.W.subIn K (.ref R) (.ref T) = some true
  sA : PySem.W.subIn K (.ref R) (.ref A) = some false
  sB : PySem.W.subIn K (.ref R) (.ref B) = some false

structure XOne (K : PySem.W.Frag) (mg : Str → Option Value) (nR : Str) where
  R : Addr
  xR : XCls K mg nR R
  r : XRai K R

/-! ### name = {k: v for ..}, the name a local -/
namespace SDC
open PySem PySem.Spec PyProof.Rows L2
variable {X : Cx}
theorem ps_setDc {i : Nat} {y : Str} {py : Pos} {kx vx tg iter : Expr} {ifs : List Expr} {scope : Scope} {own : List (Str × Nat)} {pos spos : Pos} {wi : TI} {g : TG} {tt : TT} {tk tv : TE} (hc : X.calm = true) (hN : X.N.Nodup) (hy : X.N[i]? = some y) (hyl : X.env.scope.names.lookup y = some .local)
    (hsw : swapsWith (.DictComp kx vx [⟨tg, iter, ifs, 0⟩] scope pos) (some (.Name y py)) spos.line X.env = pure true) (hi : PI X tg iter wi) (ok : BlkOk X.N X.env.scope scope own)
    (hg : ∀ (s : Shared) (H : Hp) (C : Addr) (cl : List (Str × Addr)) (fp : List Addr), PG (X.blk s H scope (compEnvC scope cl C X.env) fp) tg g) (ht : ∀ (s : Shared) (H : Hp) (C : Addr) (cl : List (Str × Addr)) (fp : List Addr), PTs (X.blk s H scope (compEnvC scope cl C X.env) fp) ifs tt)
    (hk : ∀ (s : Shared) (H : Hp) (C : Addr) (cl : List (Str × Addr)) (fp : List Addr), PE (X.blk s H scope (compEnvC scope cl C X.env) fp) kx tk)
    (he : ∀ (s : Shared) (H : Hp) (C : Addr) (cl : List (Str × Addr)) (fp : List Addr), PE (X.blk s H scope (compEnvC scope cl C X.env) fp) vx tv) (hs : ∀ x, foldedSetIterable iter X.env x = pure x := by intro _; rfl) :
    PS X (.Assign [.Name y py] (.DictComp kx vx [⟨tg, iter, ifs, 0⟩] scope pos) spos) (tAsg (tDc wi g tt tk tv (own.map (·.2))) (gName i)) := by
  refine ⟨fun pins s σ H D I h => ?_⟩
  rw [exec_Assign_Name_used _ _ _ _ hsw]
  refine wpAny_bind (wpAny_standAt (wpAny_bind ?_))
  show wpAny _ X.A (do let _ ← comprehension (.DictComp kx vx [⟨tg, iter, ifs, 0⟩] scope pos) scope X.env (firstIterPos [⟨tg, iter, ifs, 0⟩] pos) newDict false (eval iter X.env) (some (assign (.Name y py) X.env))) _ _ s
  have h : tDc wi g tt tk tv (own.map (·.2)) σ H (fun x H1 => gName i x σ H1 D.nx) := h
  refine wpAny_bind (L2.thn (dc_core (Qf := fun _ s' => SP X pins D .next s') hc hN I hi ok hg ht hk he hs h fun L C s' m H' I' q hn f => ?_) fun _ s' hq => wpAny_pure (wpAny_pure hq))
  show wpAny _ _ (assign (.Name y py) X.env (.ref L)) _ _ _
  refine wpAny_assign_Name (store_ok2 (v := V.ref L) I' hN hy (.inl hyl) rfl (fun s2 I2 ⟨a, sb, ha⟩ => ?_) (.inr hyl))
  obtain ⟨f0, f1, f2, f3, f4, f5⟩ := f
  have haC : C ≠ a := by
    rcases ha with z | z
    · rw [z]; exact f1
    · exact fun e => f4 y a z e.symm
  refine ⟨m, hn.sameBut sb haC, fun h3 sb3 => ?_⟩
  exact ⟨_, H', I2.turned (t' := s2.toks) (fun b o hb e => (sb3.2 b hb).trans e) f0 f1 f3 f4 f5, q⟩
theorem sw_true {kx vx : Expr} {gs : List Comprehension} {scope : Scope} {pos py : Pos} {y : Str} {l : Nat} {env : Env} (hk : env.scope.kind = .function) (hy : env.scope.names.lookup y = some .local) (hl : (py.line == pos.line) = true)
    (ha : (scope.names.any fun (n, k) => n == y && (k == .local || k == .cell)) = false) : swapsWith (.DictComp kx vx gs scope pos) (some (.Name y py)) l env = pure true := by
  have ky : env.kindOf y = some .local := hy
  have hb : env.blockKind = .function := by unfold Env.blockKind; rw [hk]; rfl
  unfold swapsWith
  simp only [hb, ky, ha, Expr.pos, hl]
  rfl
end SDC

/-! ### reading texts of machines -/
abbrev sread_line : Stmt := topS 17
theorem scread_line : FnScope ["line", "places", "names", "words", "ahead", "word"] ["line", "places"] (defScope sread_line) := ⟨rfl, rfl, rfl, by decide +kernel, rfl, by decide +kernel, by decide +kernel⟩
abbrev sread_machine : Stmt := topS 18
theorem scread_machine : FnScope ["text", "lines", "places", "steps", "marks", "line", "ahead", "names", "one"] ["text"] (defScope sread_machine) := ⟨rfl, rfl, rfl, by decide +kernel, rfl, by decide +kernel, by decide +kernel⟩
def plK (n : Nat) : List (L2.Key × V) := (List.range n).map fun i => (.inr (sI (i : Nat)), .int (i : Nat))
theorem sI_inj : ∀ a < 41, ∀ b < 41, sI ((a : Nat) : Int) = sI ((b : Nat) : Int) → a = b := by decide +kernel
theorem sI_gt : ∀ a < 41, sI ((a : Nat) : Int) ≠ gtS := by decide +kernel
theorem sI_free : ∀ a < 41, 32 ∉ (sI ((a : Nat) : Int)).cps.toList ∧ 10 ∉ (sI ((a : Nat) : Int)).cps.toList := by decide +kernel
theorem pl_succ (n : Nat) : plK (n + 1) = plK n ++ [(.inr (sI (n : Nat)), .int (n : Nat))] := by
  unfold plK
  rw [List.range_succ, List.map_append]
  rfl
theorem pl_key {n : Nat} {a : Nat} (ha : n ≤ a) (h : a < 41) : ∀ kv ∈ plK n, kv.1 ≠ .inr (sI (a : Nat)) := by
  intro kv hkv e
  unfold plK at hkv
  obtain ⟨i, hi, rfl⟩ := List.mem_map.mp hkv
  have hi := List.mem_range.mp hi
  have := sI_inj i (by omega) a h (Sum.inr.inj e)
  omega
theorem pl_put {n : Nat} (h : n < 41) : putK (plK n) (.inr (sI (n : Nat))) (.int (n : Nat)) = plK (n + 1) := by
  unfold putK
  rw [if_neg, pl_succ]
  intro e
  obtain ⟨kv, hkv, e⟩ := List.any_eq_true.mp e
  exact pl_key (Nat.le_refl n) h kv hkv (of_decide_eq_true e)
theorem pl_val : ∀ n a : Nat, a < n → n ≤ 41 → valV (plK n) (.inr (sI (a : Nat))) = some (.int (a : Nat))
  | 0, _, h, _ => absurd h (Nat.not_lt_zero _)
  | n + 1, a, h, hn => by
    rw [pl_succ]
    unfold valV
    rw [List.find?_append]
    by_cases ha : a < n
    · have ih := pl_val n a ha (by omega)
      unfold valV at ih
      cases e : (plK n).find? (fun kv => decide (kv.1 = .inr (sI (a : Nat)))) with
      | none =>
        rw [e] at ih
        cases ih
      | some x =>
        rw [e] at ih
        exact ih
    · obtain rfl : a = n := by omega
      have e : (plK a).find? (fun kv => decide (kv.1 = .inr (sI (a : Nat)))) = none := List.find?_eq_none.mpr fun kv hkv => by
        have := pl_key (Nat.le_refl a) (by omega) kv hkv
        simpa using this
      rw [e]
      simp
theorem pl_len (n : Nat) : (plK n).length = n := by
  unfold plK
  rw [List.length_map, List.length_range]
theorem cut_from {xs : List V} {k : Nat} (h : k ≤ xs.length) : cutV xs (some (k : Int)) none = xs.drop k := by
  unfold cutV
  rw [show HT.sIx xs.length 0 (some (k : Int)) = min k xs.length from HT.sIx_nat xs.length 0 k, HT.sIx_none, Nat.min_eq_left h]
  rw [← List.length_drop, List.take_length]
section
variable {P : Program} {w : World} {K : PySem.W.Frag} {mg : Str → Option Value} {base : Heap}
theorem dc_range {lo : Int} {n : Nat} {g : TG} {tt : TT} {tk tv : TE} {vs : List Nat} {σ : L2.St} {H1 : Hp} {D : Addr} {Qd : Hp → Prop} (Pv : Nat → Hp → Prop) (h0 : Pv 0 (upd H1 D (.dK [])))
    (hs : ∀ i H, i < n → Pv i H → g (.int (lo + i)) (wipe σ vs) H fun σ2 H2 => wipe σ2 vs = wipe σ vs ∧ tt σ2 H2 fun b H3 =>
      if b = true then tk σ2 H3 fun y H4 => tv σ2 H4 fun z H5 => ∃ kvs k, y = kV k ∧ H5 D = some (.dK kvs) ∧ kvs.length < sizeLine ∧ Pv (i + 1) (upd H5 D (.dK (putK kvs k z))) else Pv (i + 1) H3) (hd : ∀ H, Pv n H → Qd H) :
    ∃ W : Nat → Nat → Hp → Prop, (∃ m, W 0 m (upd H1 D (.dK []))) ∧ ∀ i m H, W i m H →
      ((Itr lo n).stop i H ∧ Qd H) ∨ ((Itr lo n).go i H ∧ ∃ Nx : Hp → Prop, (∀ H', Nx H' → ∃ m', m' < m ∧ W (i + 1) m' H') ∧ ∀ x H', (Itr lo n).yld i H x H' → g x (wipe σ vs) H' fun σ2 H2 => wipe σ2 vs = wipe σ vs ∧ tt σ2 H2 fun b H3 =>
        if b = true then tk σ2 H3 fun y H4 => tv σ2 H4 fun z H5 => ∃ kvs k, y = kV k ∧ H5 D = some (.dK kvs) ∧ kvs.length < sizeLine ∧ Nx (upd H5 D (.dK (putK kvs k z))) else Nx H3) := by
  refine ⟨fun i m H => m = n - i ∧ i ≤ n ∧ Pv i H, ⟨n, by simp, Nat.zero_le _, h0⟩, ?_⟩
  rintro i m H ⟨rfl, hi, p⟩
  by_cases hlt : i < n
  · refine .inr ⟨hlt, Pv (i + 1), fun H' p' => ⟨n - (i + 1), by omega, rfl, hlt, p'⟩, fun x H' y => ?_⟩
    obtain ⟨e, y⟩ := y
    subst e y
    exact hs i _ hlt p
  · obtain rfl : i = n := by omega
    exact .inl ⟨Nat.le_refl _, hd H p⟩
end

section
variable {P : Program} {w : World} {K : PySem.W.Frag} {mg : Str → Option Value} {base : Heap}
theorem len_mem : ∀ {l : List Str} {x : Str}, x ∈ l → x.length ≤ (l.map (·.length)).sum
  | y :: r, x, h => by
    rw [List.map_cons, List.sum_cons]
    rcases List.mem_cons.mp h with rfl | h
    · omega
    · have := len_mem h
      omega
theorem split_w (z : Str) {y : Str} (hy : 1 ≤ y.length) : (Txt.split z y).length ≤ z.length + 1 ∧ ∀ x ∈ Txt.split z y, x.length ≤ z.length := by
  have h := split_weight z y hy
  have h1 := split_pos z y
  refine ⟨by omega, fun x hx => ?_⟩
  have := len_mem hx
  omega
theorem log_small {n : Nat} (h : n < 1048576) : n.log2 < 1920 := by
  by_cases h0 : n = 0
  · rw [h0]
    decide
  · have := (Nat.log2_lt h0 (k := 20)).mpr h
    omega
theorem pre_of : ∀ {a r : List Str}, gtS ∉ a → preW (a ++ gtS :: r) = a ∧ postW (a ++ gtS :: r) = r
  | [], r, _ => ⟨if_pos rfl, if_pos rfl⟩
  | x :: a, r, h => by
    have hx : x ≠ gtS := fun e => h (by rw [e]; exact List.mem_cons_self)
    obtain ⟨e1, e2⟩ := pre_of (a := a) (r := r) fun k => h (List.mem_cons_of_mem _ k)
    refine ⟨?_, ?_⟩
    · show (if x = gtS then [] else x :: preW (a ++ gtS :: r)) = _
      rw [if_neg hx, e1]
    · show (if x = gtS then a ++ gtS :: r else postW (a ++ gtS :: r)) = _
      rw [if_neg hx, e2]
theorem pl_plc (n : Nat) (w : Str) : valV (plK n) (.inr w) = (plc n w).map V.int := by
  unfold valV plK plc
  rw [List.find?_map, Option.map_map, Option.map_map]
  have e : ((fun kv : L2.Key × V => decide (kv.1 = .inr w)) ∘ fun i : Nat => ((.inr (sI (i : Nat)) : L2.Key), V.int (i : Nat))) = fun i : Nat => decide (sI ((i : Nat) : Int) = w) := funext fun i => by
    show decide ((.inr (sI (i : Nat)) : L2.Key) = .inr w) = decide (sI ((i : Nat) : Int) = w)
    by_cases h : sI ((i : Nat) : Int) = w
    · rw [decide_eq_true h, decide_eq_true (by rw [h])]
    · rw [decide_eq_false h, decide_eq_false fun k => h (Sum.inr.inj k)]
  rw [e]
  rfl
/-- all values are numbers -/
def IntV (kvs : List (L2.Key × V)) : Prop := ∀ kv ∈ kvs, ∃ i : Int, kv.2 = .int i
theorem int_put {kvs : List (L2.Key × V)} {k : L2.Key} {i : Int} (h : IntV kvs) : IntV (putK kvs k (.int i)) := by
  unfold putK
  split
  · intro kv hkv
    obtain ⟨x, hx, rfl⟩ := List.mem_map.mp hkv
    split
    · exact ⟨i, rfl⟩
    · exact h x hx
  · intro kv hkv
    rcases List.mem_append.mp hkv with q | q
    · exact h kv q
    · rw [List.mem_singleton.mp q]
      exact ⟨i, rfl⟩
theorem put_len {kvs : List (L2.Key × V)} {k : L2.Key} {v : V} : (putK kvs k v).length ≤ kvs.length + 1 := by
  unfold putK
  split
  · rw [List.length_map]
    omega
  · rw [List.length_append]
    exact Nat.le_refl _
def plV (kvs : List (L2.Key × V)) (w : Str) : Option Int := match valV kvs (.inr w) with
  | some (.int i) => some i
  | _ => none
theorem plV_eq {kvs : List (L2.Key × V)} (h : IntV kvs) (w : Str) : valV kvs (.inr w) = (plV kvs w).map V.int := by
  unfold plV
  cases e : valV kvs (.inr w) with
  | none => rfl
  | some v =>
    unfold valV at e
    cases e2 : kvs.find? (fun kv => decide (kv.1 = .inr w)) with
    | none =>
      rw [e2] at e
      cases e
    | some kv =>
      rw [e2] at e
      obtain ⟨i, hi⟩ := h kv (List.mem_of_find?_eq_some e2)
      have e : kv.2 = v := Option.some.inj e
      rw [← e, hi]
      rfl
def WRg (z : Str) (d nl wl : Addr) (H0 : Hp) (ws : List Str) (m : Nat) (σ : L2.St) (H' : Hp) : Prop := ∃ i : Nat, i ≤ ws.length ∧ m = ws.length - i ∧ σ = [some (.str z), some (.ref d), some (.ref nl), some (.ref wl), none, none] ∧ Same H0 H' ∧ H' nl = some (.lst ((ws.take i).map V.str)) ∧ H' wl = some (.lst ((ws.drop i).map V.str)) ∧ gtS ∉ ws.take i
def spRLG (K : PySem.W.Frag) (cE : Addr) : Sp := fun vs H Q E => ∃ (z : Str) (d : Addr) (kvs : List (L2.Key × V)) (pl : Str → Option Int), vs = [.str z, .ref d] ∧ z.length ≤ 80000 ∧ H d = some (.dK kvs) ∧ (∀ w, valV kvs (.inr w) = (pl w).map V.int) ∧
  (∀ ns zs, lineR pl (Txt.split z spS) = some (ns, zs) → ∀ H' t a b, Same H H' → SqT K H' t [.ref a, .ref b] → SqT K H' a (ns.map V.int) → SqT K H' b (zs.map V.str) → Q (.ref t) H') ∧ (lineR pl (Txt.split z spS) = none → ∀ H', Same H H' → E (.ref cE) none H')
theorem ok_rlg {f : Addr} {fd : FuncData} (F : Fun K "read_line" "read_line" sread_line f fd) (T : Bi mg) (S : XOne K mg "NoText") : FnOk P w K mg base (L2.CX P w) 1 f fd ["line", "places"] (spRLG K S.R) := by
  have xNoText := S.xR
  have rE := S.r
  refine F.okX scread_line (fun vs H Q E h => ?_) (fun cdv A outer s H vs Q E hr h => ?_)
  · obtain ⟨z, d, kvs, pl, rfl, _⟩ := h
    rfl
  · obtain ⟨z, d, kvs, pl, rfl, lz, hd, hpl, q1, q2⟩ := h
    refine ⟨_, (pss_cons (ps_set (i := 2) scread_line.nd rfl (.inl rfl) (pe_lst pa_nil))
      (pss_cons (ps_set (i := 3) scread_line.nd rfl (.inl rfl) (pe_split (pv 0) pe_str))
      (pss_cons (ps_while (passes_of rfl) (PW.pt (pw_and (pt_truth (pv 3) (by intro _; rfl)) (pw_and1 (pt_cmpR op_ne (pe_ix ix_list (pv 3) pe_int (fun _ _ => rfl)) pe_str (nomark _)))))
        (pss_one (ps_expr (pe_bm PySem.F.plainAttrs_list PySem.F.slot_list_append PySem.F.type_list_append mt_append (pv 2) (pa_cons (pe_bm PySem.F.plainAttrs_list PySem.F.slot_list_pop PySem.F.type_list_pop mt_popAt (pv 3) (pa_cons pe_int pa_nil)) pa_nil)))))
      (pss_cons (ps_if (pt_not (pt_truth (pv 3) (by intro _; rfl)))
        (pss_one (ps_raise rfl (takes_of rfl rfl rfl rfl) (pmk_own PySem.F.excBase_ValueError rE.x xNoText.g xNoText.k (raises_own xNoText.b xNoText.t) rfl)))
        pss_nil)
      (pss_cons (ps_set (i := 4) scread_line.nd rfl (.inl rfl) (pe_lst pa_nil))
      (pss_cons (ps_for (passes_of rfl) rfl (pi_list (pe_slice sl_list (pv 3) (po_some pe_int) po_none)) (pg_name (i := 5) scread_line.nd rfl (.inl rfl))
        (pss_cons (ps_if (pt_cmp (pc_dnotin (hu_of hr) (pv 5) (pv 1)))
          (pss_one (ps_raise rfl (takes_of rfl rfl rfl rfl) (pmk_own PySem.F.excBase_ValueError rE.x xNoText.g xNoText.k (raises_own xNoText.b xNoText.t) rfl)))
          pss_nil)
        (pss_one (ps_expr (pe_bm PySem.F.plainAttrs_list PySem.F.slot_list_append PySem.F.type_list_append mt_append (pv 4) (pa_cons (pe_dget (hu_of hr) (pv 1) (pv 5) (fun _ _ => rfl)) pa_nil))))))
      (pss_one (ps_ret (pe_tup (pa_cons (pe_callTy call_tuple_of (by rfl) T.tuple (by decide +kernel) (pa_cons (pv 4) pa_nil)) (pa_cons (pe_callTy call_tuple_of (by rfl) T.tuple (by decide +kernel) (pa_cons (pv 2) pa_nil)) pa_nil))))))))))), ?_⟩
    refine ⟨Nat.zero_le _, fun nl hnl => ?_⟩
    have s1 := same_upd (o := .lst []) hnl
    refine ⟨_, rfl, ⟨_, rfl⟩, z, spS, rfl, rfl, by decide, szOk (by omega), fun wl hwl => ?_⟩
    obtain ⟨lws, _⟩ := split_w z (y := spS) (by decide)
    generalize Txt.split z spS = ws at *
    have s2 := same_upd (o := .lst (ws.map V.str)) hwl
    have nnw : nl ≠ wl := ne_of_none upd_same hwl
    have fwl : H wl = none := by
      cases e : H wl with
      | none => rfl
      | some o => exact nomatch hwl.symm.trans (s1 _ _ e)
    refine ⟨WRg z d nl wl H ws, ⟨ws.length, 0, Nat.zero_le _, rfl, rfl, s1.trans s2, s2 _ _ upd_same, upd_same, List.not_mem_nil⟩, ?_⟩
    rintro m σ H2 ⟨i, hi, rfl, rfl, s2, h2n, h2w, hg⟩
    refine ⟨_, rfl, _, .inl ⟨_, SqL.of h2w, rfl⟩, ?_⟩
    have hd2 := s2 _ _ hd
    by_cases hlt : i < ws.length
    · have hx : ws.drop i = ws[i] :: ws.drop (i + 1) := List.drop_eq_getElem_cons hlt
      have ti : ws.take (i + 1) = ws.take i ++ [ws[i]] := by
        rw [List.take_add_one, List.getElem?_eq_getElem hlt]
        rfl
      have ew : ws = ws.take i ++ ws[i] :: ws.drop (i + 1) := by rw [← hx, List.take_append_drop]
      generalize ws[i] = x at hx ti ew
      rw [hx] at h2w ⊢
      refine ⟨_, rfl, wl, _, 0, .str x, rfl, rfl, SqL.of h2w, at_of (j := 0) rfl rfl, rfl, _, rfl, ?_⟩
      rw [dec_str]
      by_cases hxg : x = gtS
      · rw [decide_eq_true (show x = Str.ofString ">" from hxg)]
        subst hxg
        have hmem : gtS ∈ ws := by rw [ew]; exact List.mem_append_right _ List.mem_cons_self
        obtain ⟨ep1, ep2⟩ := pre_of (r := ws.drop (i + 1)) hg
        rw [← ew] at ep1 ep2
        have el : lineR pl ws = (mapO pl (ws.drop (i + 1))).map fun ns => (ns, ws.take i) := by
          unfold lineR
          rw [if_pos hmem, ep1, ep2]
        rw [el] at q1 q2
        have lps : (ws.drop (i + 1)).length ≤ 80001 := by rw [List.length_drop]; omega
        have ltk : (ws.take i).length ≤ 80001 := by rw [List.length_take]; omega
        clear ep1 ep2 el ew ti hx
        generalize ws.drop (i + 1) = ps at *
        generalize ws.take i = zs at *
        refine ⟨_, rfl, _, .inl ⟨_, SqL.of h2w, rfl⟩, ?_⟩
        refine iteF ⟨Nat.zero_le _, fun al hal => ?_⟩
        have s3 := same_upd (o := .lst []) hal
        have fal : H al = none := by
          cases e : H al with
          | none => rfl
          | some o => exact nomatch hal.symm.trans (s2 _ _ e)
        refine ⟨_, rfl, 1, rfl, wl, _, rfl, SqL.of (s3 _ _ h2w), fun p hp => ?_⟩
        have s4 := same_upd (o := .lst (cutV ((gtS :: ps).map V.str) (some 1) none)) hp
        have ecut : cutV ((gtS :: ps).map V.str) (some 1) none = ps.map V.str := by
          rw [show cutV ((gtS :: ps).map V.str) (some 1) none = ((gtS :: ps).map V.str).drop 1 from cut_from (k := 1) (by simp)]
          rfl
        have hp4 : (L2.upd (L2.upd H2 al (.lst [])) p (.lst (cutV ((gtS :: ps).map V.str) (some 1) none))) p = some (.lst (ps.map V.str)) := by rw [upd_same, ecut]
        have nap : al ≠ p := ne_of_none upd_same hp
        have hal4 : (L2.upd (L2.upd H2 al (.lst [])) p (.lst (cutV ((gtS :: ps).map V.str) (some 1) none))) al = some (.lst []) := s4 _ _ upd_same
        have s24 := (s2.trans s3).trans s4
        have hn4 := s4 _ _ (s3 _ _ h2n)
        generalize (L2.upd (L2.upd H2 al (.lst [])) p (.lst (cutV ((gtS :: ps).map V.str) (some 1) none))) = H4 at hp4 hal4 s24 hn4
        refine ⟨p, rfl, ⟨_, SqL.of hp4⟩, for_list (K := K) (a := p) (xs := ps.map V.str) (fun j σ H' => ∃ (y5 : Option V) (ns : List Int), σ = [some (.str z), some (.ref d), some (.ref nl), some (.ref wl), some (.ref al), y5] ∧ Same H H' ∧ H' p = some (.lst (ps.map V.str)) ∧ H' nl = some (.lst (zs.map V.str)) ∧ H' al = some (.lst (ns.map V.int)) ∧ ns.length ≤ j ∧ mapO pl ps = (mapO pl (ps.drop j)).map (ns ++ ·)) ⟨none, [], rfl, s24, hp4, hn4, hal4, Nat.le_refl _, ?_⟩ (fun j σ H' _ ⟨_, _, _, _, h, _⟩ => SqL.of h) ?_ ?_⟩
        · rw [List.drop_zero]
          cases mapO pl ps <;> rfl
        · rintro j x σ H5 hix ⟨y5, ns, rfl, s5, h5p, h5n, h5a, lns, em⟩
          obtain ⟨a, ha, rfl⟩ := map_get hix
          have hj : j < ps.length := (List.getElem?_eq_some_iff.mp ha).1
          have hd5 := s5 _ _ hd
          have g := DGet.k (k := .inr a) hd5
          rw [hpl a] at g
          obtain ⟨m1, m2⟩ := mapO_at em ha
          cases e : pl a with
          | none =>
            rw [e] at g
            rw [m1 e] at q2
            exact ⟨_, rfl, _, rfl, d, _, rfl, g, _, rfl, iteT (q2 rfl _ s5)⟩
          | some c =>
            rw [e] at g
            refine ⟨_, rfl, _, rfl, d, _, rfl, g, _, rfl, iteF ⟨_, rfl, .inl ⟨rfl, _, SqL.of h5a⟩, _, rfl, _, rfl, d, _, rfl, g, al, _, _, rfl, rfl, h5a, szLt (by rw [List.length_map]; omega), ?_⟩⟩
            have nan : al ≠ nl := (ne_of_none h2n hal).symm
            refine ⟨_, ns ++ [c], rfl, smut s5 fal, by rw [upd_ne nap.symm]; exact h5p, by rw [upd_ne nan.symm]; exact h5n, ?_, ?_, m2 c e⟩
            · rw [upd_same, List.map_append]
              rfl
            · rw [List.length_append]
              show ns.length + 1 ≤ j + 1
              omega
        · rintro σ H5 ⟨y5, ns, rfl, s5, h5p, h5n, h5a, lns, em⟩
          rw [List.length_map] at em lns
          have em := mapO_end (Nat.le_refl _) em
          rw [em] at q1
          refine ⟨_, rfl, al, _, rfl, .inl ⟨SqL.of h5a, fun t1 g1 => ⟨_, rfl, nl, _, rfl, .inl ⟨SqL.of (same_upd g1 _ _ h5n), fun t2 g2 => ⟨by show 2 ≤ sizeLine; decide, fun t3 g3 => ?_⟩⟩⟩⟩⟩
          have u1 := same_upd (o := .tup (ns.map V.int)) g1
          have u2 := same_upd (o := .tup (zs.map V.str)) g2
          have u3 := same_upd (o := .tup [.ref t1, .ref t2]) g3
          exact q1 ns zs rfl _ t3 t1 t2 (((s5.trans u1).trans u2).trans u3) (SqT.of upd_same) (SqT.of (u3 _ _ (u2 _ _ upd_same))) (SqT.of (u3 _ _ upd_same))
      · have hxz : x ≠ Str.ofString ">" := hxg
        rw [decide_eq_false hxz]
        refine ⟨fun σ' H' => ∃ m', m' < ws.length - i ∧ WRg z d nl wl H ws m' σ' H', fun _ _ h => h, ?_⟩
        refine ⟨_, rfl, .inl ⟨rfl, _, SqL.of h2n⟩, _, rfl, .inl ⟨rfl, _, SqL.of h2w⟩, wl, _, 0, 0, .str x, rfl, rfl, h2w, by decide, by decide, six0 (by simp), rfl, ?_⟩
        refine ⟨nl, _, _, rfl, rfl, by rw [upd_ne nnw]; exact h2n, szLt (by rw [List.length_map, List.length_take]; omega), ?_⟩
        refine ⟨_, by omega, i + 1, hlt, rfl, rfl, smut (smut s2 fwl) hnl, ?_, ?_, ?_⟩
        · rw [upd_same, ti, List.map_append]
          rfl
        · rw [upd_ne nnw.symm, upd_same]
          rfl
        · rw [ti]
          intro k
          rcases List.mem_append.mp k with k | k
          · exact hg k
          · exact hxg (List.mem_singleton.mp k).symm
    · obtain rfl : i = ws.length := by omega
      rw [List.drop_length] at h2w ⊢
      rw [List.take_length] at hg
      refine ⟨_, rfl, _, .inl ⟨_, SqL.of h2w, rfl⟩, iteT (q2 ?_ _ s2)⟩
      unfold lineR
      rw [if_neg hg]
end

section
variable {P : Program} {w : World} {K : PySem.W.Frag} {mg : Str → Option Value} {base : Heap}
/-- what a text says -/
def readT (z : Str) : MR := readL (Txt.split z nlS)
def spRMG (K : PySem.W.Frag) (cE : Addr) : Sp := fun vs H Q E => ∃ v, vs = [v] ∧ ((∃ z : Str, v = .str z ∧ z.length ≤ 80000 ∧ (∀ s m, readT z = some (s, m) → GoodMach s m → ∀ H' c, Same H H' → MachAt K H' c s m → Q (.ref c) H') ∧ (readT z = none → ∀ H', Same H H' → E (.ref cE) none H')) ∨
  ∃ t, TyX K H v t ∧ PySem.W.kitOne K t (.type "str") = some false ∧ ∀ H', Same H H' → E (.ref cE) none H')
theorem line_short19 {pl : Str → Option Int} {z : Str} {B : Nat} (hz : ∀ x ∈ Txt.split z spS, x.length ≤ B) {p : List Int × List Str} (h : lineR pl (Txt.split z spS) = some p) : ∀ x ∈ p.2, x.length ≤ B := by
  unfold lineR at h
  split at h
  · rename_i hg
    cases e : mapO pl (postW (Txt.split z spS)) with
    | none =>
      rw [e] at h
      cases h
    | some ns =>
      rw [e] at h
      cases h
      intro x hx
      refine hz x ?_
      rw [pre_post hg]
      exact List.mem_append_left _ hx
  · cases h
theorem ok_rmg {f : Addr} {fd : FuncData} (F : Fun K "read_machine" "read_machine" sread_machine f fd) (T : Bi mg) (S : XOne K mg "NoText") (cis_machine : Cal P w K mg base 4 "is_machine" ["thing"] (spMachB K)) (cread_line : CalX P w K mg base 1 "read_line" ["line", "places"] (spRLG K S.R)) : FnOk P w K mg base (L2.CX P w) 5 f fd ["text"] (spRMG K S.R) := by
  have xNoText := S.xR
  have rE := S.r
  refine F.okX scread_machine (fun vs H Q E h => ?_) (fun cdv A outer s H vs Q E hr h => ?_)
  · obtain ⟨v, rfl, _⟩ := h
    rfl
  · obtain ⟨v, rfl, h⟩ := h
    refine ⟨_, (pss_cons (ps_if (pt_not (pt_val (pe_callB call_isi (by rfl) T.isinstance (by decide +kernel) (pa_cons (pv 0) (pa_cons (pe_bltn (v := .ty "str") (u := .type "str") (by rfl) T.str (by decide +kernel) rfl) pa_nil)))))
        (pss_one (ps_raise rfl (takes_of rfl rfl rfl rfl) (pmk_own PySem.F.excBase_ValueError rE.x xNoText.g xNoText.k (raises_own xNoText.b xNoText.t) rfl)))
        pss_nil)
      (pss_cons (ps_set (i := 1) scread_machine.nd rfl (.inl rfl) (pe_split (pv 0) pe_str))
      (pss_cons (SDC.ps_setDc (i := 2) (own := [("one", 8)]) (g := gName 8) (by rfl) scread_machine.nd rfl rfl (SDC.sw_true rfl rfl rfl (by decide +kernel)) (pi_range1 (by rfl) T.range (pa_cons (pe_callB call_len_seq (by rfl) T.len PySem.boot_len (pa_cons (pv 1) pa_nil)) pa_nil)) (blkOk_by (own := [("one", 8)]) (N := ["text", "lines", "places", "steps", "marks", "line", "ahead", "names", "one"]) (sc := defScope sread_machine) (by decide +kernel)) (fun _ _ _ _ _ => (pg_name (i := 8) scread_machine.nd rfl (.inl rfl))) (fun _ _ _ _ _ => pts_nil) (fun _ _ _ _ _ => (pe_callTy call_str_int (by rfl) T.str (by decide +kernel) (pa_cons (pv 8) pa_nil))) (fun _ _ _ _ _ => (pv 8)))
      (pss_cons (ps_set (i := 3) scread_machine.nd rfl (.inl rfl) (pe_lst pa_nil))
      (pss_cons (ps_set (i := 4) scread_machine.nd rfl (.inl rfl) (pe_lst pa_nil))
      (pss_cons (ps_for (passes_of rfl) rfl (pi_list (pv 1)) (pg_name (i := 5) scread_machine.nd rfl (.inl rfl))
        (pss_cons (ps_asg (pe_callS cread_line.G (hr.mono (by decide)) (by rfl) cread_line.g cread_line.kp cread_line.b (fun σ => passAt (takes_of rfl rfl rfl rfl) σ) (pa_cons (pv 5) (pa_cons (pv 2) pa_nil))) (pg_tup rfl (pgs_cons (pg_name (i := 6) scread_machine.nd rfl (.inl rfl)) (pgs_cons (pg_name (i := 7) scread_machine.nd rfl (.inl rfl)) pgs_nil))))
        (pss_cons (ps_expr (pe_bm PySem.F.plainAttrs_list PySem.F.slot_list_append PySem.F.type_list_append mt_append (pv 3) (pa_cons (pv 6) pa_nil)))
        (pss_one (ps_expr (pe_bm PySem.F.plainAttrs_list PySem.F.slot_list_append PySem.F.type_list_append mt_append (pv 4) (pa_cons (pv 7) pa_nil)))))))
      (pss_cons (ps_if (pt_not (pt_val (pe_call cis_machine.G hr (by rfl) cis_machine.g cis_machine.kp cis_machine.b .nil pass0 (pa_cons (pe_tup (pa_cons (pe_callTy call_tuple_of (by rfl) T.tuple (by decide +kernel) (pa_cons (pv 3) pa_nil)) (pa_cons (pe_callTy call_tuple_of (by rfl) T.tuple (by decide +kernel) (pa_cons (pv 4) pa_nil)) pa_nil))) pa_nil))))
        (pss_one (ps_raise rfl (takes_of rfl rfl rfl rfl) (pmk_own PySem.F.excBase_ValueError rE.x xNoText.g xNoText.k (raises_own xNoText.b xNoText.t) rfl)))
        pss_nil)
      (pss_one (ps_ret (pe_tup (pa_cons (pe_callTy call_tuple_of (by rfl) T.tuple (by decide +kernel) (pa_cons (pv 3) pa_nil)) (pa_cons (pe_callTy call_tuple_of (by rfl) T.tuple (by decide +kernel) (pa_cons (pv 4) pa_nil)) pa_nil)))))))))))), ?_⟩
    rcases h with ⟨z, rfl, lz, q1, q2⟩ | ⟨t, ty, kt, q⟩
    rotate_left
    · exact ⟨_, rfl, _, _, _, _, false, rfl, .ty "str", ty, kt, false, rfl, iteT (q H (Same.refl _))⟩
    refine ⟨_, rfl, _, _, _, _, true, rfl, .ty "str", .base (.str _), kit_ty (by decide +kernel), true, rfl, iteF ?_⟩
    refine ⟨_, rfl, ⟨_, rfl⟩, z, nlS, rfl, rfl, by decide, szOk (by omega), fun L hL => ?_⟩
    unfold readT at q1 q2
    obtain ⟨ll, lx⟩ := split_w z (y := nlS) (by decide)
    have l1 := split_pos z nlS
    generalize Txt.split z nlS = ls at *
    have s1 := same_upd (o := .lst (ls.map V.str)) hL
    have h1 : (L2.upd H L (.lst (ls.map V.str))) L = some (.lst (ls.map V.str)) := upd_same
    generalize (L2.upd H L (.lst (ls.map V.str))) = H1 at s1 h1
    refine ⟨_, rfl, L, _, rfl, .inl (SqL.of h1), _, rfl, by omega, by rw [List.length_map]; omega, fun D hD => ?_⟩
    have fD : H D = none := by
      cases e : H D with
      | none => rfl
      | some o => exact nomatch hD.symm.trans (s1 _ _ e)
    refine dc_range (lo := 0) (n := (((ls.map V.str).length : Nat) : Int).toNat) (fun i H' => Same H1 H' ∧ ∃ kvs, H' D = some (.dK kvs) ∧ IntV kvs ∧ kvs.length ≤ i ∧ (i ≤ 40 → kvs = plK i)) ⟨same_upd hD, [], upd_same, fun _ h => absurd h List.not_mem_nil, Nat.le_refl _, fun _ => rfl⟩ (fun i H' hi2 p => ?_) (fun H2 p => ?_)
    · obtain ⟨p1, kvs, p2, p3, p4, p5⟩ := p
      have hi2 : i < ls.length := by
        have : i < (((ls.map V.str).length : Nat) : Int).toNat := hi2
        rw [List.length_map] at this
        omega
      refine ⟨rfl, _, rfl, _, rfl, log_small (by omega), _, rfl, kvs, .inr (sI (i : Nat)), by rw [Int.zero_add]; rfl, p2, szLt (by omega), smut p1 hD, _, upd_same, ?_, ?_, fun h40 => ?_⟩
      · exact int_put p3
      · have := put_len (kvs := kvs) (k := .inr (sI (i : Nat))) (v := .int (0 + (i : Nat)))
        omega
      · rw [p5 (by omega), Int.zero_add, pl_put (by omega)]
    · obtain ⟨p1, kvs, p2, p3, p4, p5⟩ := p
      rw [List.length_map, Int.toNat_natCast] at p4 p5
      have hpl : ∃ pl : Str → Option Int, (∀ w, valV kvs (.inr w) = (pl w).map V.int) ∧ (ls.length ≤ 40 → ∀ w, pl w = plc ls.length w) := by
        by_cases h40 : ls.length ≤ 40
        · rw [p5 h40]
          exact ⟨plc ls.length, pl_plc _, fun _ _ => rfl⟩
        · exact ⟨plV kvs, plV_eq p3, fun h => absurd h h40⟩
      obtain ⟨pl, hpl, hp40⟩ := hpl
      rw [← read_eq l1 hp40] at q1 q2
      clear hp40 p5 p4 p3
      refine ⟨Nat.zero_le _, fun sl hsl => ⟨Nat.zero_le _, fun ml hml => ?_⟩⟩
      have u1 := same_upd (o := .lst []) hsl
      have u2 := same_upd (o := .lst []) hml
      have nsm : sl ≠ ml := ne_of_none upd_same hml
      have s2 := s1.trans p1
      have u12 := u1.trans u2
      have fsl : H sl = none := by
        cases e : H sl with
        | none => rfl
        | some o => exact nomatch hsl.symm.trans (s2 _ _ e)
      have fml : H ml = none := by
        cases e : H ml with
        | none => rfl
        | some o => exact nomatch hml.symm.trans ((s2.trans u1) _ _ e)
      have g1 := u12 _ _ (p1 _ _ h1)
      have g2 := u12 _ _ p2
      have g3 : (L2.upd (L2.upd H2 sl (.lst [])) ml (.lst [])) sl = some (.lst []) := u2 _ _ upd_same
      have g4 : (L2.upd (L2.upd H2 sl (.lst [])) ml (.lst [])) ml = some (.lst []) := upd_same
      have sg := s2.trans u12
      have nLs : L ≠ sl := ne_of_none (p1 _ _ h1) hsl
      have nLm : L ≠ ml := ne_of_none (u1 _ _ (p1 _ _ h1)) hml
      have nDs : D ≠ sl := ne_of_none p2 hsl
      have nDm : D ≠ ml := ne_of_none (u1 _ _ p2) hml
      generalize (L2.upd (L2.upd H2 sl (.lst [])) ml (.lst [])) = H3 at g1 g2 g3 g4 sg
      have key : ∀ e, mapO (fun z => lineR pl (Txt.split z spS)) ls = e → readR pl ls = finR e := fun e h => by
        unfold readR
        rw [h]
      refine ⟨_, rfl, L, rfl, ⟨_, SqL.of g1⟩, for_list (K := K) (a := L) (xs := ls.map V.str) (fun i σ H' => ∃ (sa ka : List Addr) (G : List (List Int × List Str)) (y5 y6 y7 : Option V), σ = [some (.str z), some (.ref L), some (.ref D), some (.ref sl), some (.ref ml), y5, y6, y7, none] ∧ Same H H' ∧ H' L = some (.lst (ls.map V.str)) ∧ H' D = some (.dK kvs) ∧
        H' sl = some (.lst (sa.map V.ref)) ∧ H' ml = some (.lst (ka.map V.ref)) ∧ Each (fun a ns => SqT K H' a (ns.map V.int)) sa (G.map (·.1)) ∧ Each (fun a zs => SqT K H' a (zs.map V.str)) ka (G.map (·.2)) ∧ G.length ≤ i ∧ mapO (fun z => lineR pl (Txt.split z spS)) ls = (mapO (fun z => lineR pl (Txt.split z spS)) (ls.drop i)).map (G ++ ·)) ⟨[], [], [], none, none, none, rfl, sg, g1, g2, g3, g4, .nil, .nil, Nat.le_refl _, ?_⟩ (fun i σ H' _ ⟨_, _, _, _, _, _, _, _, h, _⟩ => SqL.of h) ?_ ?_⟩
      · rw [List.drop_zero]
        cases mapO (fun z => lineR pl (Txt.split z spS)) ls <;> rfl
      · rintro i x σ H4 hix ⟨sa, ka, G, y5, y6, y7, rfl, s4, a1, a2, a3, a4, e1, e2, lG, em⟩
        obtain ⟨y, hy, rfl⟩ := map_get hix
        have il : i < ls.length := (List.getElem?_eq_some_iff.mp hy).1
        have ly := lx y (List.mem_of_getElem? hy)
        obtain ⟨m1, m2⟩ := mapO_at em hy
        refine ⟨_, rfl, _, rfl, y, D, kvs, pl, rfl, by omega, a2, hpl, fun ns zs el H5 t a b s5 ht ha hb => ?_, fun el H5 s5 => ?_⟩
        rotate_left
        · rw [key _ (m1 el)] at q2
          exact q2 rfl H5 (s4.trans s5)
        have m2 := m2 (ns, zs) el
        refine ⟨t, _, rfl, ht, rfl, _, _, rfl, _, _, rfl, rfl, ?_⟩
        have b3 := s5 _ _ a3
        have b4 := s5 _ _ a4
        have la := e1.len
        have lb := e2.len
        rw [List.length_map] at la lb
        refine ⟨_, rfl, .inl ⟨rfl, _, SqL.of b3⟩, _, rfl, sl, _, _, rfl, rfl, b3, szLt (by rw [List.length_map]; omega), ?_⟩
        have i1 : Imm H5 (L2.upd H5 sl (.lst (sa.map V.ref ++ [.ref a]))) := Imm.list b3
        have c4 : (L2.upd H5 sl (.lst (sa.map V.ref ++ [.ref a]))) ml = some (.lst (ka.map V.ref)) := by rw [upd_ne nsm.symm]; exact b4
        refine ⟨_, rfl, .inl ⟨rfl, _, SqL.of c4⟩, _, rfl, ml, _, _, rfl, rfl, c4, szLt (by rw [List.length_map]; omega), ?_⟩
        have i2 := i1.trans (Imm.list (o := .lst (ka.map V.ref ++ [.ref b])) c4)
        have i3 := (simm s5).trans i2
        refine ⟨sa ++ [a], ka ++ [b], G ++ [(ns, zs)], _, _, _, rfl, smut (smut (s4.trans s5) fsl) fml, ?_, ?_, ?_, ?_, ?_, ?_, ?_, m2⟩
        · rw [upd_ne nLm, upd_ne nLs]
          exact s5 _ _ a1
        · rw [upd_ne nDm, upd_ne nDs]
          exact s5 _ _ a2
        · rw [upd_ne nsm, upd_same, List.map_append]
          rfl
        · rw [upd_same, List.map_append]
          rfl
        · rw [List.map_append]
          exact Each.snoc (R := fun u (x : List Int) => SqT K (L2.upd (L2.upd H5 sl (.lst (sa.map V.ref ++ [.ref a]))) ml (.lst (ka.map V.ref ++ [.ref b]))) u (x.map V.int)) (a := a) (x := ns) (as := sa) (xs := G.map (·.1)) (i2.sq ha) (e1.imp fun _ _ h => i3.sq h)
        · rw [List.map_append]
          exact Each.snoc (R := fun u (x : List Str) => SqT K (L2.upd (L2.upd H5 sl (.lst (sa.map V.ref ++ [.ref a]))) ml (.lst (ka.map V.ref ++ [.ref b]))) u (x.map V.str)) (a := b) (x := zs) (as := ka) (xs := G.map (·.2)) (i2.sq hb) (e2.imp fun _ _ h => i3.sq h)
        · rw [List.length_append]
          show G.length + 1 ≤ i + 1
          omega
      · rintro σ H4 ⟨sa, ka, G, y5, y6, y7, rfl, s4, a1, a2, a3, a4, e1, e2, lG, em⟩
        rw [List.length_map] at em lG
        have em := mapO_end (Nat.le_refl _) em
        have key := key _ em
        have hsh : ∀ zs ∈ G.map (·.2), ∀ x ∈ zs, x.length ≤ 90000 := by
          intro zs hzs
          obtain ⟨p, hp, rfl⟩ := List.mem_map.mp hzs
          refine mapO_all (p := fun p : List Int × List Str => ∀ x ∈ p.2, x.length ≤ 90000) em (fun y hy p hp => ?_) p hp
          have ly := lx y hy
          exact line_short19 (fun x hx => by have := (split_w y (y := spS) (by decide)).2 x hx; omega) hp
        have mk : ∀ (H5 : Hp) (t1 t2 t3 : Addr), Same H4 H5 → H5 t1 = some (.tup (sa.map V.ref)) → H5 t2 = some (.tup (ka.map V.ref)) → H5 t3 = some (.tup [.ref t1, .ref t2]) → MachAt K H5 t3 (unz G).1 (unz G).2 := fun H5 t1 t2 t3 s5 b1 b2 b3 => ⟨t1, t2, sa, ka, SqT.of b3, SqT.of b1, SqT.of b2, e1.imp fun _ _ h => ssqt s5 h, e2.imp fun _ _ h => ssqt s5 h⟩
        refine ⟨_, rfl, sl, _, rfl, .inl ⟨SqL.of a3, fun t1 k1 => ⟨_, rfl, ml, _, rfl, .inl ⟨SqL.of (same_upd k1 _ _ a4), fun t2 k2 => ⟨by show 2 ≤ sizeLine; decide, fun t3 k3 => ?_⟩⟩⟩⟩⟩
        have v1 := same_upd (o := .tup (sa.map V.ref)) k1
        have v2 := same_upd (o := .tup (ka.map V.ref)) k2
        have v3 := same_upd (o := .tup [.ref t1, .ref t2]) k3
        have v := (v1.trans v2).trans v3
        have M1 := mk _ t1 t2 t3 v (v3 _ _ (v2 _ _ upd_same)) (v3 _ _ upd_same) upd_same
        refine ⟨t3, (unz G).1, (unz G).2, rfl, M1, by simp [unz], hsh, fun H6 s6 => ⟨_, rfl, ?_⟩⟩
        have c3 := s6 _ _ (v _ _ a3)
        have c4 := s6 _ _ (v _ _ a4)
        dsimp only [finR] at key
        cases em : machB (unz G).1 (unz G).2 with
        | false =>
          rw [em, if_neg (by decide)] at key
          rw [key] at q2
          exact iteT (q2 rfl _ ((s4.trans v).trans s6))
        | true =>
          rw [em, if_pos rfl] at key
          rw [key] at q1
          refine iteF ?_
          refine ⟨_, rfl, sl, _, rfl, .inl ⟨SqL.of c3, fun t4 k4 => ⟨_, rfl, ml, _, rfl, .inl ⟨SqL.of (same_upd k4 _ _ c4), fun t5 k5 => ⟨by show 2 ≤ sizeLine; decide, fun t6 k6 => ?_⟩⟩⟩⟩⟩
          have v4 := same_upd (o := .tup (sa.map V.ref)) k4
          have v5 := same_upd (o := .tup (ka.map V.ref)) k5
          have v6 := same_upd (o := .tup [.ref t4, .ref t5]) k6
          have vv := (v.trans s6).trans ((v4.trans v5).trans v6)
          exact q1 (unz G).1 (unz G).2 rfl (mach_good (by simp [unz]) em) _ t6 (s4.trans vv) (mk _ t4 t5 t6 vv (v6 _ _ (v5 _ _ upd_same)) (v6 _ _ upd_same) upd_same)
end

/-! ### the law's reading of a text of a machine -/
abbrev s_law_places : Stmt := topS 29
theorem sc_law_places : FnScope ["_law_many", "_law_k"] ["_law_many"] (defScope s_law_places) := ⟨rfl, rfl, rfl, by decide +kernel, rfl, by decide +kernel, by decide +kernel⟩
abbrev s_law_rising : Stmt := topS 32
theorem sc_law_rising : FnScope ["_law_row", "_law_k"] ["_law_row"] (defScope s_law_rising) := ⟨rfl, rfl, rfl, by decide +kernel, rfl, by decide +kernel, by decide +kernel⟩
abbrev s_law_read_machine : Stmt := topS 33
theorem sc_law_read_machine : FnScope ["_law_text", "_law_lines", "_law_places_here", "_law_steps", "_law_marks", "_law_line_here", "_law_words", "_law_names_here", "_law_onto", "_law_numbers", "_law_name_here", "_law_to"] ["_law_text"] (defScope s_law_read_machine) := ⟨rfl, rfl, rfl, by decide +kernel, rfl, by decide +kernel, by decide +kernel⟩
section
variable {P : Program} {w : World} {K : PySem.W.Frag} {mg : Str → Option Value} {base : Heap}
def placesL (n : Nat) : List Str := (List.range n).map fun i => sI ((i : Nat) : Int)
def spPlaces (K : PySem.W.Frag) : Sp := fun vs H Q _ => ∃ n : Nat, vs = [.int (n : Nat)] ∧ n ≤ 40 ∧ ∀ H' p, Same H H' → H' p = some (.lst ((placesL n).map V.str)) → Q (.ref p) H'
theorem ok_places {f : Addr} {fd : FuncData} (F : Fun K "_law_places" "_law_places" s_law_places f fd) (T : Bi mg) : FnOk P w K mg base CX0 1 f fd ["_law_many"] (spPlaces K) := by
  refine F.ok sc_law_places (fun vs H Q E h => ?_) (fun cdv A outer s H vs Q E hr h => ?_)
  · obtain ⟨n, rfl, _⟩ := h
    rfl
  · obtain ⟨n, rfl, hn, q⟩ := h
    refine ⟨_, (pss_one (ps_ret (pe_lc (own := [("_law_k", 1)]) (g := gName 1) rfl sc_law_places.nd (pi_range1 (by rfl) T.range (pa_cons (pv 0) pa_nil)) (blkOk_by (own := [("_law_k", 1)]) (N := ["_law_many", "_law_k"]) (sc := defScope s_law_places) (by decide +kernel)) (fun _ _ _ _ _ => (pg_name (i := 1) sc_law_places.nd rfl (.inl rfl))) (fun _ _ _ _ _ => pts_nil) (fun _ _ _ _ _ => (pe_callTy call_str_int (by rfl) T.str (by decide +kernel) (pa_cons (pv 1) pa_nil)))))), ?_⟩
    refine ⟨_, rfl, _, rfl, by omega, by omega, fun D hD => ?_⟩
    refine lc_rangeS (fun i acc => acc = (placesL i).map V.str) hD (by omega) rfl (fun _ => rfl) (fun i H4 acc hi s4 p5 _ N1 N2 n1 n2 => ?_) (fun H4 acc s4 hD4 _ p5 => ?_)
    · refine ⟨_, rfl, _, rfl, log_small (by omega), n1 _ H4 (Same.refl _) ?_⟩
      rw [p5]
      unfold placesL
      rw [List.range_succ, List.map_append, List.map_append, Int.zero_add]
      rfl
    · subst p5
      exact q H4 D s4 hD4
def spRis (K : PySem.W.Frag) : Sp := fun vs H Q _ => ∃ a : Addr, vs = [.ref a] ∧ ((∃ ns : List Int, SqL K H a (ns.map V.int) ∧ ns.length ≤ 90000 ∧ Q (.bl (risG ltI ns)) H) ∨ ∃ zs : List Str, SqL K H a (zs.map V.str) ∧ zs.length ≤ 90000 ∧ Q (.bl (risG ltS zs)) H)
theorem ris_at {α : Type} {lt : α → α → Bool} {l : List α} {i : Nat} {x y : α} (h : risG lt l = risG lt (l.drop i)) (h1 : l[i]? = some x) (h2 : l[i + 1]? = some y) : risG lt l = (lt x y && risG lt (l.drop (i + 1))) := by
  obtain ⟨hi, rfl⟩ := List.getElem?_eq_some_iff.mp h1
  obtain ⟨hj, rfl⟩ := List.getElem?_eq_some_iff.mp h2
  rw [h, List.drop_eq_getElem_cons hi, List.drop_eq_getElem_cons hj]
  rfl
theorem ris_end {α : Type} {lt : α → α → Bool} {l : List α} {i : Nat} (hi : l.length ≤ i + 1) (h : risG lt l = risG lt (l.drop i)) : risG lt l = true := by
  rw [h]
  have : (l.drop i).length ≤ 1 := by rw [List.length_drop]; omega
  match l.drop i, this with
  | [], _ => rfl
  | [x], _ => rfl
  | x :: y :: r, k => simp at k
theorem ok_ris {f : Addr} {fd : FuncData} (F : Fun K "_law_rising" "_law_rising" s_law_rising f fd) (T : Bi mg) : FnOk P w K mg base CX0 1 f fd ["_law_row"] (spRis K) := by
  refine F.ok sc_law_rising (fun vs H Q E h => ?_) (fun cdv A outer s H vs Q E hr h => ?_)
  · obtain ⟨a, rfl, _⟩ := h
    rfl
  · obtain ⟨a, rfl, h⟩ := h
    refine ⟨_, (pss_cons (ps_for PassesOwn.never rfl (pi_range2 (by rfl) T.range (pa_cons pe_int (pa_cons (pe_callB call_len_seq (by rfl) T.len PySem.boot_len (pa_cons (pv 0) pa_nil)) pa_nil))) (pg_name (i := 1) sc_law_rising.nd rfl (.inl rfl))
        (pss_one (ps_if (pt_cmpR EQL.op_geU (pe_ix ix_list (pv 0) (pe_op op_sub (pv 1) pe_int) (fun _ _ => rfl)) (pe_ix ix_list (pv 0) (pv 1) (fun _ _ => rfl)) (nomark _))
          (pss_one (ps_ret pe_bl))
          pss_nil)))
      (pss_one (ps_ret pe_bl))), ?_⟩
    rcases h with ⟨ns, ha, ln, q⟩ | ⟨ns, ha, ln, q⟩
    · refine ⟨_, rfl, a, _, rfl, .inl ha, _, _, rfl, ⟨by decide, by decide, by rw [List.length_map]; omega, by rw [List.length_map]; omega⟩, for_range (lo := 1) (n := ((((ns.map V.int).length : Nat) : Int) - 1).toNat) (fun i σ H' => ∃ y, σ = [some (.ref a), y] ∧ H' = H ∧ risG ltI ns = risG ltI (ns.drop i)) ⟨_, rfl, rfl, rfl⟩ ?_ ?_⟩
      · rintro i σ H1 hi ⟨y, rfl, rfl, e⟩
        rw [List.length_map] at hi
        have h1 : ns[i]? = some (ns[i]'(by omega)) := List.getElem?_eq_getElem _
        have h2 : ns[i + 1]? = some (ns[i + 1]'(by omega)) := List.getElem?_eq_getElem _
        generalize ns[i]'(by omega) = u at h1
        generalize ns[i + 1]'(by omega) = v at h2
        have e := ris_at e h1 h2
        refine ⟨_, rfl, _, rfl, _, _, rfl, rfl, a, _, _, _, rfl, rfl, ha, by rw [show (1 : Int) + (i : Int) - 1 = ((i : Nat) : Int) by omega]; exact atI_nat (get_map h1), _, rfl, _, rfl, a, _, _, _, rfl, rfl, ha, by rw [show (1 : Int) + (i : Int) = ((i + 1 : Nat) : Int) by omega]; exact atI_nat (get_map h2), .inl ⟨_, _, rfl, rfl, _, rfl, ?_⟩⟩
        by_cases hl : u < v
        · rw [decide_eq_false (by omega)]
          refine iteF ⟨_, rfl, rfl, ?_⟩
          rw [show ltI u v = true from decide_eq_true hl, Bool.true_and] at e
          exact e
        · rw [decide_eq_true (by omega)]
          rw [show ltI u v = false from decide_eq_false hl, Bool.false_and] at e
          rw [e] at q
          exact iteT q
      · rintro σ H1 ⟨y, rfl, rfl, e⟩
        rw [List.length_map] at e
        rw [ris_end (by omega) e] at q
        exact q
    · refine ⟨_, rfl, a, _, rfl, .inl ha, _, _, rfl, ⟨by decide, by decide, by rw [List.length_map]; omega, by rw [List.length_map]; omega⟩, for_range (lo := 1) (n := ((((ns.map V.str).length : Nat) : Int) - 1).toNat) (fun i σ H' => ∃ y, σ = [some (.ref a), y] ∧ H' = H ∧ risG ltS ns = risG ltS (ns.drop i)) ⟨_, rfl, rfl, rfl⟩ ?_ ?_⟩
      · rintro i σ H1 hi ⟨y, rfl, rfl, e⟩
        rw [List.length_map] at hi
        have h1 : ns[i]? = some (ns[i]'(by omega)) := List.getElem?_eq_getElem _
        have h2 : ns[i + 1]? = some (ns[i + 1]'(by omega)) := List.getElem?_eq_getElem _
        generalize ns[i]'(by omega) = u at h1
        generalize ns[i + 1]'(by omega) = v at h2
        have e := ris_at e h1 h2
        refine ⟨_, rfl, _, rfl, _, _, rfl, rfl, a, _, _, _, rfl, rfl, ha, by rw [show (1 : Int) + (i : Int) - 1 = ((i : Nat) : Int) by omega]; exact atI_nat (get_map h1), _, rfl, _, rfl, a, _, _, _, rfl, rfl, ha, by rw [show (1 : Int) + (i : Int) = ((i + 1 : Nat) : Int) by omega]; exact atI_nat (get_map h2), .inr ⟨_, _, rfl, rfl, _, rfl, ?_⟩⟩
        have el : decide (u.cps.toList < v.cps.toList) = ltS u v := rfl
        rw [el]
        cases hl : ltS u v with
        | true =>
          refine iteF ⟨_, rfl, rfl, ?_⟩
          rw [hl, Bool.true_and] at e
          exact e
        | false =>
          rw [hl, Bool.false_and] at e
          rw [e] at q
          exact iteT q
      · rintro σ H1 ⟨y, rfl, rfl, e⟩
        rw [List.length_map] at e
        rw [ris_end (by omega) e] at q
        exact q
end

section
variable {P : Program} {w : World} {K : PySem.W.Frag} {mg : Str → Option Value} {base : Heap}
theorem cut_to {xs : List V} {k : Nat} : cutV xs none (some (k : Int)) = xs.take k := by
  unfold cutV
  rw [HT.sIx_nat, HT.sIx_none, Nat.sub_zero, List.drop_zero]
  rw [Nat.min_def]
  split
  · rfl
  · rw [List.take_of_length_le (Nat.le_refl _), List.take_of_length_le (by omega)]
theorem plc_some {n : Nat} {w : Str} {i : Int} (h : plc n w = some i) : ∃ j : Nat, i = (j : Int) ∧ (placesL n)[j]? = some w ∧ ∀ m < j, ∀ z', (placesL n)[m]? = some z' → z' ≠ w := by
  unfold plc at h
  cases e : (List.range n).find? (fun i => decide (sI ((i : Nat) : Int) = w)) with
  | none =>
    rw [e] at h
    cases h
  | some j =>
    rw [e] at h
    cases h
    obtain ⟨h1, h2, h3⟩ := List.find?_range_eq_some.mp e
    have h2 := List.mem_range.mp h2
    refine ⟨j, rfl, ?_, fun m hm z' hz => ?_⟩
    · unfold placesL
      rw [List.getElem?_map, List.getElem?_range h2]
      exact congrArg some (of_decide_eq_true h1)
    · unfold placesL at hz
      rw [List.getElem?_map, List.getElem?_range (by omega)] at hz
      cases hz
      exact notdec (h3 m hm)
theorem plc_mem {n : Nat} {w : Str} : decide (w ∈ placesL n) = (plc n w).isSome := by
  cases e : plc n w with
  | some i =>
    obtain ⟨j, _, h, _⟩ := plc_some e
    exact decide_eq_true (List.mem_of_getElem? h)
  | none =>
    refine decide_eq_false fun h => ?_
    unfold plc at e
    cases e2 : (List.range n).find? (fun i => decide (sI ((i : Nat) : Int) = w)) with
    | none =>
      obtain ⟨i, hi, rfl⟩ := List.mem_map.mp h
      have := List.find?_eq_none.mp e2 i hi
      exact this (decide_eq_true rfl)
    | some j =>
      rw [e2] at e
      cases e
theorem filter_snoc {α : Type} {l : List α} {p : α → Bool} {i : Nat} {x : α} (h : l[i]? = some x) : (l.take (i + 1)).filter p = if p x = true then (l.take i).filter p ++ [x] else (l.take i).filter p := by
  rw [List.take_add_one, h, List.filter_append]
  show _ ++ List.filter p [x] = _
  rw [List.filter_cons, List.filter_nil]
  split
  · rfl
  · rw [List.append_nil]
theorem filter_nil_all {l : List Str} {p : Str → Bool} (h : l.filter (fun z => !p z) = []) : l.all p = true := by
  rw [List.all_eq_true]
  intro x hx
  have := List.filter_eq_nil_iff.mp h x hx
  simpa using this
theorem filter_some_all {l : List Str} {p : Str → Bool} (h : l.filter (fun z => !p z) ≠ []) : l.all p = false := by
  cases e : l.all p with
  | false => rfl
  | true =>
    refine absurd (List.filter_eq_nil_iff.mpr fun x hx => ?_) h
    rw [List.all_eq_true] at e
    rw [e x hx]
    decide
theorem mapO_ok {f : Str → Option Int} : ∀ {l : List Str}, l.all (fun w => (f w).isSome) = true → mapO f l = some (l.map fun w => (f w).getD 0)
  | [], _ => rfl
  | x :: r, h => by
    rw [List.all_cons, Bool.and_eq_true] at h
    cases e : f x with
    | none =>
      rw [e] at h
      exact absurd h.1 (by decide)
    | some y =>
      rw [mapO_some e, mapO_ok h.2, List.map_cons, e]
      rfl
theorem mapO_bad {f : Str → Option Int} : ∀ {l : List Str}, l.all (fun w => (f w).isSome) = false → mapO f l = none
  | [], h => by simp at h
  | x :: r, h => by
    cases e : f x with
    | none => exact mapO_none e
    | some y =>
      rw [List.all_cons, e] at h
      rw [mapO_some e, mapO_bad (l := r) (by simpa using h)]
      rfl
theorem idx_gt {ws as ps : List Str} (e : ws = as ++ gtS :: ps) (ha : gtS ∉ as) : (ws.map V.str)[as.length]? = some (.str gtS) ∧ ∀ (m : Nat) (z' : V), m < as.length → (ws.map V.str)[m]? = some z' → eqV z' (.str gtS) = false := by
  subst e
  refine ⟨?_, fun m z' hm hz => ?_⟩
  · rw [List.getElem?_map, List.getElem?_append_right (Nat.le_refl _), Nat.sub_self]
    rfl
  · rw [List.getElem?_map, List.getElem?_append_left hm, List.getElem?_eq_getElem hm] at hz
    cases hz
    have : as[m] ≠ gtS := fun h => ha (by rw [← h]; exact List.getElem_mem hm)
    exact beq_eq_false_iff_ne.mpr this
def spLRM (K : PySem.W.Frag) : Sp := fun vs H Q _ => ∃ z : Str, vs = [.str z] ∧ z.length ≤ 80000 ∧ (readT z = none → ∀ H', Same H H' → Q .non H') ∧ ∀ s m, readT z = some (s, m) → ∀ H' c, Same H H' → MachAt K H' c s m → Q (.ref c) H'
theorem ok_lrm {f : Addr} {fd : FuncData} (F : Fun K "_law_read_machine" "_law_read_machine" s_law_read_machine f fd) (T : Bi mg) (c_law_places : Cal P w K mg base 1 "_law_places" ["_law_many"] (spPlaces K)) (c_law_good_name : Cal P w K mg base 1 "_law_good_name" ["_law_thing"] spNameS)
    (c_law_rising : Cal P w K mg base 1 "_law_rising" ["_law_row"] (spRis K)) : FnOk P w K mg base CX0 2 f fd ["_law_text"] (spLRM K) := by
  refine F.ok sc_law_read_machine (fun vs H Q E h => ?_) (fun cdv A outer s H vs Q E hr h => ?_)
  · obtain ⟨z, rfl, _⟩ := h
    rfl
  · obtain ⟨z, rfl, lz, q1, q2⟩ := h
    refine ⟨_, (pss_cons (ps_set (i := 1) sc_law_read_machine.nd rfl (.inl rfl) (pe_split (pv 0) pe_str))
      (pss_cons (ps_if (pt_cmpR op_gt (pe_callB call_len_seq (by rfl) T.len PySem.boot_len (pa_cons (pv 1) pa_nil)) pe_int (nomark _))
        (pss_one (ps_ret pe_non))
        pss_nil)
      (pss_cons (ps_set (i := 2) sc_law_read_machine.nd rfl (.inr rfl) (pe_call c_law_places.G hr (by rfl) c_law_places.g c_law_places.kp c_law_places.b .nil pass0 (pa_cons (pe_callB call_len_seq (by rfl) T.len PySem.boot_len (pa_cons (pv 1) pa_nil)) pa_nil)))
      (pss_cons (ps_set (i := 3) sc_law_read_machine.nd rfl (.inl rfl) (pe_lst pa_nil))
      (pss_cons (ps_set (i := 4) sc_law_read_machine.nd rfl (.inl rfl) (pe_lst pa_nil))
      (pss_cons (ps_for PassesOwn.never rfl (pi_list (pv 1)) (pg_name (i := 5) sc_law_read_machine.nd rfl (.inl rfl))
        (pss_cons (ps_set (i := 6) sc_law_read_machine.nd rfl (.inl rfl) (pe_split (pv 5) pe_str))
        (pss_cons (ps_if (pt_cmpR op_notIn_seq pe_str (pv 6) (by rfl))
          (pss_one (ps_ret pe_non))
          pss_nil)
        (pss_cons (ps_set (i := 7) sc_law_read_machine.nd rfl (.inl rfl) (pe_slice sl_list (pv 6) po_none (po_some (pe_bm PySem.F.plainAttrs_list PySem.F.slot_list_index PySem.F.type_list_index mt_index (pv 6) (pa_cons pe_str pa_nil)))))
        (pss_cons (ps_set (i := 8) sc_law_read_machine.nd rfl (.inl rfl) (pe_slice sl_list (pv 6) (po_some (pe_op op_add (pe_bm PySem.F.plainAttrs_list PySem.F.slot_list_index PySem.F.type_list_index mt_index (pv 6) (pa_cons pe_str pa_nil)) pe_int)) po_none))
        (pss_cons (ps_if (PW.pt (pw_or (pt_cmpR (EQL.op_neNil hr.units) (pe_lc (own := [("_law_name_here", 10)]) (g := gName 10) rfl sc_law_read_machine.nd (pi_list (pv 7)) (blkOk_by (own := [("_law_name_here", 10)]) (N := ["_law_text", "_law_lines", "_law_places_here", "_law_steps", "_law_marks", "_law_line_here", "_law_words", "_law_names_here", "_law_onto", "_law_numbers", "_law_name_here", "_law_to"]) (sc := defScope s_law_read_machine) (by decide +kernel)) (fun _ _ _ _ _ => (pg_name (i := 10) sc_law_read_machine.nd rfl (.inl rfl))) (fun _ _ _ _ _ => (pts_one (pt_not (pt_val (pe_call c_law_good_name.G hr (by rfl) c_law_good_name.g c_law_good_name.kp c_law_good_name.b .nil pass0 (pa_cons (pv 10) pa_nil)))))) (fun _ _ _ _ _ => (pv 10))) (pe_lst pa_nil) (nomark _)) (pw_or1 (pt_cmpR op_gt (pe_callB call_len_seq (by rfl) T.len PySem.boot_len (pa_cons (pv 7) pa_nil)) pe_int (nomark _)))))
          (pss_one (ps_ret pe_non))
          pss_nil)
        (pss_cons (ps_if (pt_cmpR (EQL.op_neNil hr.units) (pe_lc (own := [("_law_to", 11)]) (g := gName 11) rfl sc_law_read_machine.nd (pi_list (pv 8)) (blkOk_by (own := [("_law_to", 11)]) (N := ["_law_text", "_law_lines", "_law_places_here", "_law_steps", "_law_marks", "_law_line_here", "_law_words", "_law_names_here", "_law_onto", "_law_numbers", "_law_name_here", "_law_to"]) (sc := defScope s_law_read_machine) (by decide +kernel)) (fun _ _ _ _ _ => (pg_name (i := 11) sc_law_read_machine.nd rfl (.inl rfl))) (fun _ _ _ _ _ => (pts_one (pt_cmpR (ninS K) (pv 11) (pv 2) (by rfl)))) (fun _ _ _ _ _ => (pv 11))) (pe_lst pa_nil) (nomark _))
          (pss_one (ps_ret pe_non))
          pss_nil)
        (pss_cons (ps_setLc (i := 9) (own := [("_law_to", 11)]) (g := gName 11) (by rfl) sc_law_read_machine.nd rfl rfl (sw_true rfl rfl rfl (by decide +kernel)) (pi_list (pv 8)) (blkOk_by (own := [("_law_to", 11)]) (N := ["_law_text", "_law_lines", "_law_places_here", "_law_steps", "_law_marks", "_law_line_here", "_law_words", "_law_names_here", "_law_onto", "_law_numbers", "_law_name_here", "_law_to"]) (sc := defScope s_law_read_machine) (by decide +kernel)) (fun _ _ _ _ _ => (pg_name (i := 11) sc_law_read_machine.nd rfl (.inl rfl))) (fun _ _ _ _ _ => pts_nil) (fun _ _ _ _ _ => (EQL.idxB K (pv 2) (pa_cons (pv 11) pa_nil))))
        (pss_cons (ps_if (PW.pt (pw_or (pt_not (pt_val (pe_call c_law_rising.G hr (by rfl) c_law_rising.g c_law_rising.kp c_law_rising.b .nil pass0 (pa_cons (pv 7) pa_nil)))) (pw_or1 (pt_not (pt_val (pe_call c_law_rising.G hr (by rfl) c_law_rising.g c_law_rising.kp c_law_rising.b .nil pass0 (pa_cons (pv 9) pa_nil)))))))
          (pss_one (ps_ret pe_non))
          pss_nil)
        (pss_cons (ps_expr (pe_bm PySem.F.plainAttrs_list PySem.F.slot_list_append PySem.F.type_list_append mt_append (pv 3) (pa_cons (pe_callTy call_tuple_of (by rfl) T.tuple (by decide +kernel) (pa_cons (pv 9) pa_nil)) pa_nil)))
        (pss_one (ps_expr (pe_bm PySem.F.plainAttrs_list PySem.F.slot_list_append PySem.F.type_list_append mt_append (pv 4) (pa_cons (pe_callTy call_tuple_of (by rfl) T.tuple (by decide +kernel) (pa_cons (pv 7) pa_nil)) pa_nil))))))))))))))
      (pss_one (ps_ret (pe_tup (pa_cons (pe_callTy call_tuple_of (by rfl) T.tuple (by decide +kernel) (pa_cons (pv 3) pa_nil)) (pa_cons (pe_callTy call_tuple_of (by rfl) T.tuple (by decide +kernel) (pa_cons (pv 4) pa_nil)) pa_nil))))))))))), ?_⟩
    refine ⟨_, rfl, ⟨_, rfl⟩, z, nlS, rfl, rfl, by decide, szOk (by omega), fun L hL => ?_⟩
    unfold readT at q1 q2
    obtain ⟨ll, lx⟩ := split_w z (y := nlS) (by decide)
    have l1 := split_pos z nlS
    generalize Txt.split z nlS = ls at *
    have s1 := same_upd (o := .lst (ls.map V.str)) hL
    have h1 : (L2.upd H L (.lst (ls.map V.str))) L = some (.lst (ls.map V.str)) := upd_same
    generalize (L2.upd H L (.lst (ls.map V.str))) = H1 at s1 h1
    refine ⟨_, rfl, L, _, rfl, .inl (SqL.of h1), _, _, rfl, rfl, _, rfl, ite2 (fun e => ?_) (fun e => ?_)⟩
    · rw [List.length_map] at e
      have := of_decide_eq_true e
      refine q1 ?_ H1 s1
      unfold readL
      rw [if_neg (by omega)]
    rw [List.length_map] at e
    have l40 : ls.length ≤ 40 := by
      have : ¬ ((40 : Int) < (ls.length : Int)) := fun h => e (decide_eq_true h)
      omega
    clear e
    unfold readL at q1 q2
    rw [if_pos l40] at q1 q2
    generalize hn : ls.length = n at *
    refine ⟨_, rfl, L, _, rfl, .inl (SqL.of h1), n, by rw [List.length_map, hn]; rfl, l40, fun H2 pl s2 hp => ?_⟩
    refine ⟨Nat.zero_le _, fun sl hsl => ⟨Nat.zero_le _, fun ml hml => ?_⟩⟩
    have u1 := same_upd (o := .lst []) hsl
    have u2 := same_upd (o := .lst []) hml
    have nsm : sl ≠ ml := ne_of_none upd_same hml
    have u12 := u1.trans u2
    have s12 := s1.trans s2
    have fsl : H sl = none := by
      cases e : H sl with
      | none => rfl
      | some o => exact nomatch hsl.symm.trans (s12 _ _ e)
    have fml : H ml = none := by
      cases e : H ml with
      | none => rfl
      | some o => exact nomatch hml.symm.trans ((s12.trans u1) _ _ e)
    have h1 := s2 _ _ h1
    have g1 := u12 _ _ h1
    have g2 := u12 _ _ hp
    have g3 : (L2.upd (L2.upd H2 sl (.lst [])) ml (.lst [])) sl = some (.lst []) := u2 _ _ upd_same
    have g4 : (L2.upd (L2.upd H2 sl (.lst [])) ml (.lst [])) ml = some (.lst []) := upd_same
    have sg := s12.trans u12
    have nLs : L ≠ sl := ne_of_none h1 hsl
    have nLm : L ≠ ml := ne_of_none (u1 _ _ h1) hml
    have nDs : pl ≠ sl := ne_of_none hp hsl
    have nDm : pl ≠ ml := ne_of_none (u1 _ _ hp) hml
    generalize (L2.upd (L2.upd H2 sl (.lst [])) ml (.lst [])) = H3 at g1 g2 g3 g4 sg
    refine ⟨_, rfl, L, rfl, ⟨_, SqL.of g1⟩, for_list (K := K) (a := L) (xs := ls.map V.str) (fun i σ H' => ∃ (sa ka : List Addr) (G : List (List Int × List Str)) (y5 y6 y7 y8 y9 : Option V), σ = [some (.str z), some (.ref L), some (.ref pl), some (.ref sl), some (.ref ml), y5, y6, y7, y8, y9, none, none] ∧ Same H H' ∧ H' L = some (.lst (ls.map V.str)) ∧ H' pl = some (.lst ((placesL n).map V.str)) ∧
      H' sl = some (.lst (sa.map V.ref)) ∧ H' ml = some (.lst (ka.map V.ref)) ∧ Each (fun a ns => SqT K H' a (ns.map V.int)) sa (G.map (·.1)) ∧ Each (fun a zs => SqT K H' a (zs.map V.str)) ka (G.map (·.2)) ∧ G.length ≤ i ∧ mapO (fun z => lineL n (Txt.split z spS)) ls = (mapO (fun z => lineL n (Txt.split z spS)) (ls.drop i)).map (G ++ ·)) ⟨[], [], [], none, none, none, none, none, rfl, sg, g1, g2, g3, g4, .nil, .nil, Nat.le_refl _, ?_⟩ (fun i σ H' _ ⟨_, _, _, _, _, _, _, _, _, _, h, _⟩ => SqL.of h) ?_ ?_⟩
    · rw [List.drop_zero]
      cases mapO (fun z => lineL n (Txt.split z spS)) ls <;> rfl
    · rintro i x σ H4 hix ⟨sa, ka, G, y5, y6, y7, y8, y9, rfl, s4, a1, a2, a3, a4, e1, e2, lG, em⟩
      obtain ⟨y, hy, rfl⟩ := map_get hix
      have il : i < ls.length := (List.getElem?_eq_some_iff.mp hy).1
      have ly := lx y (List.mem_of_getElem? hy)
      obtain ⟨m1, m2⟩ := mapO_at em hy
      have m1 : lineL n (Txt.split y spS) = none → mapO (fun z => lineL n (Txt.split z spS)) ls = none := m1
      have m2 : ∀ p, lineL n (Txt.split y spS) = some p → _ := m2
      refine ⟨_, rfl, ⟨_, rfl⟩, y, spS, rfl, rfl, by decide, szOk (by omega), fun wl hwl => ?_⟩
      obtain ⟨lws, lww⟩ := split_w y (y := spS) (by decide)
      generalize Txt.split y spS = ws at *
      have s5 := same_upd (o := .lst (ws.map V.str)) hwl
      have h5w : (L2.upd H4 wl (.lst (ws.map V.str))) wl = some (.lst (ws.map V.str)) := upd_same
      generalize (L2.upd H4 wl (.lst (ws.map V.str))) = H5 at s5 h5w
      -- nothing is told
      have bad : lineL n ws = none → ∀ H6, Same H5 H6 → Q .non H6 := fun hb H6 s6 => q1 (by rw [m1 hb]; rfl) H6 ((s4.trans s5).trans s6)
      refine ⟨_, rfl, wl, _, rfl, .inl (SqL.of h5w), rfl, flat_str _, _, rfl, ?_⟩
      rw [inV_str]
      by_cases hg : gtS ∈ ws
      · have hg' : Str.ofString ">" ∈ ws := hg
        rw [decide_eq_true hg']
        have ew := pre_post hg
        have na := pre_not ws
        have el : lineL n ws = if ((preW ws).all nmB && decide ((preW ws).length ≤ 8)) = true then match mapO (plc n) (postW ws) with
            | none => none
            | some ns => if (risG ltS (preW ws) && risG ltI ns) = true then some (ns, preW ws) else none
          else none := if_pos hg
        generalize preW ws = as at ew na el
        generalize postW ws = ps at ew el
        have lap : as.length + ps.length + 1 ≤ 80001 := by
          have := congrArg List.length ew
          rw [List.length_append, List.length_cons] at this
          omega
        obtain ⟨i1, i2⟩ := idx_gt ew na
        have law : ∀ x ∈ as, x.length ≤ 90000 := fun x hx => by
          have := lww x (by rw [ew]; exact List.mem_append_left _ hx)
          omega
        refine iteF ⟨_, rfl, _, rfl, .inl ⟨rfl, _, SqL.of h5w⟩, wl, _, _, as.length, _, rfl, rfl, SqL.of h5w, rfl, flat_str _, i1, beq_self_eq_true _, i2, (as.length : Nat), rfl, wl, _, rfl, SqL.of h5w, fun p1 hp1 => ?_⟩
        have c1 : cutV (ws.map V.str) none (some ((as.length : Nat) : Int)) = as.map V.str := by
          rw [cut_to, ← List.map_take, ew, List.take_left']
          rfl
        rw [c1]
        have s6 := same_upd (o := .lst (as.map V.str)) hp1
        have h6p : (L2.upd H5 p1 (.lst (as.map V.str))) p1 = some (.lst (as.map V.str)) := upd_same
        generalize (L2.upd H5 p1 (.lst (as.map V.str))) = H6 at s6 h6p
        have h6w := s6 _ _ h5w
        refine ⟨_, rfl, _, rfl, .inl ⟨rfl, _, SqL.of h6w⟩, wl, _, _, as.length, _, rfl, rfl, SqL.of h6w, rfl, flat_str _, i1, beq_self_eq_true _, i2, _, _, rfl, rfl, ((as.length + 1 : Nat) : Int), rfl, wl, _, rfl, SqL.of h6w, fun p2 hp2 => ?_⟩
        have c2 : cutV (ws.map V.str) (some ((as.length + 1 : Nat) : Int)) none = ps.map V.str := by
          rw [cut_from (by rw [List.length_map, ew, List.length_append, List.length_cons]; omega), ← List.map_drop, ew, show as ++ gtS :: ps = (as ++ [gtS]) ++ ps by rw [List.append_assoc]; rfl, List.drop_left' (by rw [List.length_append]; rfl)]
        rw [c2]
        have s7 := same_upd (o := .lst (ps.map V.str)) hp2
        have h7q : (L2.upd H6 p2 (.lst (ps.map V.str))) p2 = some (.lst (ps.map V.str)) := upd_same
        have h7p := s7 _ _ h6p
        generalize (L2.upd H6 p2 (.lst (ps.map V.str))) = H7 at s7 h7q h7p
        have s57 := s6.trans s7
        clear i1 i2 c1 c2 h6w
        -- names that are none
        refine ⟨_, rfl, p1, rfl, ⟨_, SqL.of h7p⟩, fun D1 hD1 => ?_⟩
        refine lc_listS (fun i acc => acc = ((as.take i).filter fun z => !nmB z).map V.str) (SqL.of h7p) hD1 (by rw [List.length_map]; omega) rfl (fun _ => rfl) (fun i x H8 acc hx s8 p8 l8 N1 N2 n1 n2 => ?_) (fun H8 acc s8 hD8 _ p8 => ?_)
        · obtain ⟨v, hv, rfl⟩ := map_get hx
          refine ⟨_, rfl, v, rfl, law v (List.mem_of_getElem? hv), fun H9 s9 => ⟨_, rfl, ?_⟩⟩
          have ef := filter_snoc (p := fun z => !nmB z) hv
          cases hb : nmB v with
          | true =>
            rw [hb, if_neg (by decide)] at ef
            exact n2 H9 s9 (by rw [p8, ef])
          | false =>
            rw [hb, if_pos (by decide)] at ef
            exact ⟨_, rfl, n1 _ H9 s9 (by rw [p8, ef, List.map_append]; rfl)⟩
        rw [List.length_map, List.take_length] at p8
        subst p8
        refine ⟨Nat.zero_le _, fun q3 hq3 => ⟨D1, q3, _, rfl, rfl, SqL.of (same_upd hq3 _ _ hD8), SqL.of upd_same, _, rfl, ?_⟩⟩
        have s9 := same_upd (o := .lst []) hq3
        generalize (L2.upd H8 q3 (.lst [])) = H9 at s9
        have s79 := s8.trans s9
        have s59 := s57.trans s79
        cases hf : as.filter (fun z => !nmB z) with
        | cons v r =>
          refine iteT (bad ?_ H9 s59)
          rw [el, filter_some_all (p := nmB) (by rw [hf]; exact List.cons_ne_nil _ _)]
          rfl
        | nil =>
        rw [filter_nil_all (p := nmB) hf, Bool.true_and] at el
        have h9p := s79 _ _ h7p
        refine iteF ⟨_, rfl, p1, _, rfl, .inl (SqL.of h9p), _, _, rfl, rfl, _, rfl, ite2 (fun e => ?_) (fun e => ?_)⟩
        · rw [List.length_map] at e
          have := of_decide_eq_true e
          refine bad ?_ H9 s59
          rw [el, decide_eq_false (by omega)]
          rfl
        rw [List.length_map] at e
        have l8 : as.length ≤ 8 := by
          have : ¬ ((8 : Int) < (as.length : Int)) := fun h => e (decide_eq_true h)
          omega
        clear e hf hD8
        rw [decide_eq_true l8, if_pos rfl] at el
        -- numbers that are none
        have h9q := s79 _ _ h7q
        have h9l := s59 _ _ (s5 _ _ a2)
        refine ⟨_, rfl, p2, rfl, ⟨_, SqL.of h9q⟩, fun D2 hD2 => ?_⟩
        refine lc_listS (fun i acc => acc = ((ps.take i).filter fun z => !(plc n z).isSome).map V.str) (SqL.of h9q) hD2 (by rw [List.length_map]; omega) rfl (fun _ => rfl) (fun i x H10 acc hx s10 p10 l10 N1 N2 n1 n2 => ?_) (fun H10 acc s10 hD10 _ p10 => ?_)
        · obtain ⟨v, hv, rfl⟩ := map_get hx
          refine ⟨_, rfl, _, rfl, pl, _, rfl, .inl (SqL.of (s10 _ _ h9l)), rfl, flat_str _, _, rfl, ?_⟩
          rw [inV_str, plc_mem]
          have ef := filter_snoc (p := fun z => !(plc n z).isSome) hv
          cases hb : (plc n v).isSome with
          | true =>
            rw [hb, if_neg (by decide)] at ef
            exact n2 H10 (Same.refl _) (by rw [p10, ef])
          | false =>
            rw [hb, if_pos (by decide)] at ef
            exact ⟨_, rfl, n1 _ H10 (Same.refl _) (by rw [p10, ef, List.map_append]; rfl)⟩
        rw [List.length_map, List.take_length] at p10
        subst p10
        refine ⟨Nat.zero_le _, fun q4 hq4 => ⟨D2, q4, _, rfl, rfl, SqL.of (same_upd hq4 _ _ hD10), SqL.of upd_same, _, rfl, ?_⟩⟩
        have s11 := same_upd (o := .lst []) hq4
        generalize (L2.upd H10 q4 (.lst [])) = H11 at s11
        have s911 := s10.trans s11
        have s511 := s59.trans s911
        cases hf : ps.filter (fun z => !(plc n z).isSome) with
        | cons v r =>
          refine iteT (bad ?_ H11 s511)
          rw [el, mapO_bad (filter_some_all (p := fun z => (plc n z).isSome) (by rw [hf]; exact List.cons_ne_nil _ _))]
        | nil =>
        have hall := filter_nil_all (p := fun z => (plc n z).isSome) hf
        rw [mapO_ok hall] at el
        dsimp only at el
        clear hf hD10
        have h11q := s911 _ _ h9q
        have h11l := s911 _ _ h9l
        have h11p := s911 _ _ h9p
        -- the numbers
        refine iteF ⟨_, rfl, p2, rfl, ⟨_, SqL.of h11q⟩, fun D3 hD3 => ?_⟩
        refine lc_listS (fun i acc => acc = ((ps.take i).map fun z => (plc n z).getD 0).map V.int) (SqL.of h11q) hD3 (by rw [List.length_map]; omega) rfl (fun _ => rfl) (fun i x H12 acc hx s12 p12 l12 N1 N2 n1 n2 => ?_) (fun H12 acc s12 hD12 _ p12 => ?_)
        · obtain ⟨v, hv, rfl⟩ := map_get hx
          have hs := List.all_eq_true.mp hall v (List.mem_of_getElem? hv)
          obtain ⟨c, hc⟩ := Option.isSome_iff_exists.mp hs
          obtain ⟨j, rfl, j1, j2⟩ := plc_some hc
          refine ⟨_, rfl, .inl ⟨rfl, _, SqL.of (s12 _ _ h11l)⟩, _, rfl, pl, _, _, j, _, rfl, rfl, SqL.of (s12 _ _ h11l), rfl, flat_str _, get_map j1, beq_self_eq_true _, fun m z' hm hz => ?_, n1 _ H12 (Same.refl _) ?_⟩
          · obtain ⟨u, hu, rfl⟩ := map_get hz
            exact beq_eq_false_iff_ne.mpr (j2 m hm u hu)
          · rw [p12, List.take_add_one, hv, List.map_append, List.map_append]
            show _ = _ ++ [V.int ((plc n v).getD 0)]
            rw [hc]
            rfl
        rw [List.length_map, List.take_length] at p12
        subst p12
        have s512 := s511.trans s12
        have h12p := s12 _ _ h11p
        have lns : (ps.map fun z => (plc n z).getD 0).length ≤ 80001 := by rw [List.length_map]; omega
        generalize ps.map (fun z => (plc n z).getD 0) = ns at el hD12 lns
        refine ⟨_, rfl, p1, rfl, .inr ⟨as, SqL.of h12p, by omega, _, rfl, ?_⟩⟩
        cases r1 : risG ltS as with
        | false =>
          refine iteT (bad ?_ H12 s512)
          rw [el, r1]
          rfl
        | true =>
        rw [r1, Bool.true_and] at el
        refine iteF ⟨_, rfl, D3, rfl, .inl ⟨ns, SqL.of hD12, by omega, _, rfl, ?_⟩⟩
        cases r2 : risG ltI ns with
        | false =>
          refine iteT (bad ?_ H12 s512)
          rw [el, r2]
          rfl
        | true =>
        rw [r2, if_pos rfl] at el
        have m2 := m2 _ el
        have ss := s5.trans s512
        have b3 := ss _ _ a3
        have b4 := ss _ _ a4
        have la := e1.len
        have lb := e2.len
        rw [List.length_map] at la lb
        refine iteF ⟨_, rfl, .inl ⟨rfl, _, SqL.of b3⟩, _, rfl, D3, _, rfl, .inl ⟨SqL.of hD12, fun t1 k1 => ⟨sl, _, _, rfl, rfl, same_upd k1 _ _ b3, szLt (by rw [List.length_map]; omega), ?_⟩⟩⟩
        have v1 := same_upd (o := .tup (ns.map V.int)) k1
        have b3' := v1 _ _ b3
        have b4' := v1 _ _ b4
        have t1' : (L2.upd H12 t1 (.tup (ns.map V.int))) t1 = some (.tup (ns.map V.int)) := upd_same
        have p1' := v1 _ _ h12p
        generalize (L2.upd H12 t1 (.tup (ns.map V.int))) = H13 at v1 b3' b4' t1' p1'
        have i1 : Imm H13 (L2.upd H13 sl (.lst (sa.map V.ref ++ [.ref t1]))) := Imm.list b3'
        have c4 : (L2.upd H13 sl (.lst (sa.map V.ref ++ [.ref t1]))) ml = some (.lst (ka.map V.ref)) := by rw [upd_ne nsm.symm]; exact b4'
        have np1 : p1 ≠ sl := fun e => by
          have := s5 _ _ a3
          rw [← e] at this
          exact nomatch hp1.symm.trans this
        have cp : (L2.upd H13 sl (.lst (sa.map V.ref ++ [.ref t1]))) p1 = some (.lst (as.map V.str)) := by rw [upd_ne np1]; exact p1'
        refine ⟨_, rfl, .inl ⟨rfl, _, SqL.of c4⟩, _, rfl, p1, _, rfl, .inl ⟨SqL.of cp, fun t2 k2 => ⟨ml, _, _, rfl, rfl, same_upd k2 _ _ c4, szLt (by rw [List.length_map]; omega), ?_⟩⟩⟩
        have v2 := same_upd (o := .tup (as.map V.str)) k2
        have i2 := (i1.trans (simm v2)).trans (Imm.list (o := .lst (ka.map V.ref ++ [.ref t2])) (v2 _ _ c4))
        have i3 := (simm (ss.trans v1)).trans i2
        have n2s : t2 ≠ sl := fun e => by
          rw [e, upd_same] at k2
          cases k2
        have n2m : t2 ≠ ml := fun e => by
          rw [e] at k2
          exact nomatch k2.symm.trans c4
        have nf2 : H t2 = none := by
          cases e : H t2 with
          | none => rfl
          | some o =>
            have := ((s4.trans ss).trans v1) _ _ e
            rw [upd_ne n2s] at k2
            exact nomatch k2.symm.trans this
        refine ⟨sa ++ [t1], ka ++ [t2], G ++ [(ns, as)], _, _, _, _, _, rfl, smut (smut (smut ((s4.trans ss).trans v1) fsl) nf2) fml, ?_, ?_, ?_, ?_, ?_, ?_, ?_, m2⟩
        · rw [upd_ne nLm]
          exact v2 _ _ (by rw [upd_ne nLs]; exact v1 _ _ (ss _ _ a1))
        · rw [upd_ne nDm]
          exact v2 _ _ (by rw [upd_ne nDs]; exact v1 _ _ (ss _ _ a2))
        · rw [upd_ne nsm]
          exact v2 _ _ (by rw [upd_same, List.map_append]; rfl)
        · rw [upd_same, List.map_append]
          rfl
        · rw [List.map_append]
          exact Each.snoc (R := fun u (x : List Int) => SqT K _ u (x.map V.int)) (a := t1) (x := ns) (as := sa) (xs := G.map (·.1)) (i2.sq (SqT.of t1')) (e1.imp fun _ _ h => i3.sq h)
        · rw [List.map_append]
          exact Each.snoc (R := fun u (x : List Str) => SqT K _ u (x.map V.str)) (a := t2) (x := as) (as := ka) (xs := G.map (·.2)) ((Imm.list (v2 _ _ c4)).sq (SqT.of upd_same)) (e2.imp fun _ _ h => i3.sq h)
        · rw [List.length_append]
          show G.length + 1 ≤ i + 1
          omega
      · have hg' : Str.ofString ">" ∉ ws := hg
        rw [decide_eq_false hg']
        refine iteT (bad ?_ H5 (Same.refl _))
        unfold lineL
        rw [if_neg hg]
    · rintro σ H4 ⟨sa, ka, G, y5, y6, y7, y8, y9, rfl, s4, a1, a2, a3, a4, e1, e2, lG, em⟩
      rw [List.length_map] at em lG
      have em := mapO_end (Nat.le_refl _) em
      rw [em] at q2
      refine ⟨_, rfl, sl, _, rfl, .inl ⟨SqL.of a3, fun t1 k1 => ⟨_, rfl, ml, _, rfl, .inl ⟨SqL.of (same_upd k1 _ _ a4), fun t2 k2 => ⟨by show 2 ≤ sizeLine; decide, fun t3 k3 => ?_⟩⟩⟩⟩⟩
      have v1 := same_upd (o := .tup (sa.map V.ref)) k1
      have v2 := same_upd (o := .tup (ka.map V.ref)) k2
      have v3 := same_upd (o := .tup [.ref t1, .ref t2]) k3
      have v := (v1.trans v2).trans v3
      exact q2 (unz G).1 (unz G).2 rfl _ t3 (s4.trans v) ⟨t1, t2, sa, ka, SqT.of upd_same, SqT.of (v3 _ _ (v2 _ _ upd_same)), SqT.of (v3 _ _ upd_same), e1.imp fun _ _ h => ssqt v h, e2.imp fun _ _ h => ssqt v h⟩
end

def sp1 : Str := Str.ofString " "
def jn (l : List Str) : Str := Str.join sp1 l
theorem join_txt (l : List Str) : Txt.join sp1 l = jn l := StrLaws.glued_eq_join sp1 l
theorem jn_one (x : Str) : jn [x] = x := rfl
theorem jn_cons (x : Str) {l : List Str} (h : l ≠ []) : jn (x :: l) = x ++ sp1 ++ jn l := by
  cases l with
  | nil => exact absurd rfl h
  | cons y r => rfl

/-! ### a list whose first thing puts a token out -/
namespace RPL
open PySem PySem.Spec PyProof.Rows L2
theorem pa_cons1 {X : Cx} {a : Expr} {op : Operator} {r : R2} {c : Str} {j : Nat} {cp p : Pos} {es : List Expr} {ta : TE} {t : TA} (ho : OpR X (binaryOp op) r) (ha : PE X a ta) (hr : PAT X es t)
    (hs : starEach ((.BinOp a op (.Constant (.str c) j cp) p) :: es) X.env = (false, eval (.BinOp a op (.Constant (.str c) j cp) p) X.env) :: starEach es X.env := by rfl) : L2.PA X (.BinOp a op (.Constant (.str c) j cp) p :: es) (tCons (tOp r ta (tC (.str c))) t) := by
  refine ⟨fun pos pins s σ H Q I h => ?_⟩
  rw [hs]
  show wpAny _ _ (spliced ((false, eval (.BinOp a op (.Constant (.str c) j cp) p) X.env) :: backTo pos (starEach es X.env))) _ _ s
  refine Calls.spliced_cons (wpAny_BinOp (L2.thn (ha.run pins s σ H _ I h) fun v s1 ⟨x, H1, I1, r1, q1⟩ => Calls.Constant_str ?_))
  refine wpAny_mono (PySem.wpAny_toks (ho pins { s1 with toks := s1.toks + 1 } σ H1 x (.str c) v (.str c s1.toks) _ (I1.tok _) r1 ⟨_, rfl⟩ q1)) (fun u s2 q => ?_) fun _ _ z => z.2
  obtain ⟨hk, y, H2, I2, r2, q2⟩ := q
  have hk : s1.toks + 1 ≤ s2.toks := hk
  exact L2.thn (hr pos pins s2 σ H2 _ (by omega) I2 q2) fun us s3 ⟨xs, H3, I3, r3, q3⟩ => ⟨y :: xs, H3, I3, .cons r2 r3, q3⟩
theorem un65 {k : Nat} {A : Around} (r : Room k A) : A.units + 65 < cLine := by
  have := r.un
  omega
def rInT (K : PySem.W.Frag) : R2 := fun x y H Q => ∃ d ds, Dp K H x d ∧ Dp K H y (.tuple ds) ∧ SeqAt.shaped d = true ∧ SeqAt.shaped (.tuple ds) = true ∧ Q (.bl (ds.any fun z => PyData.eqv z d)) H
theorem op_inT {X : Cx} (hu : X.A.units + 65 < cLine) : OpR X (compareOp .In) (rInT X.K) := by
  intro pins s σ H x y v u Q I rx ry h
  obtain ⟨d, ds, hd, he, sd, se, q⟩ := h
  obtain ⟨as, r1⟩ := Dp.reads I d x v hd rx
  obtain ⟨bs, r2⟩ := Dp.reads I (.tuple ds) y u he ry
  exact SeqAt.in_tuple_reads r2 r1 (SeqAt.canLay_of_shaped se) (SeqAt.canLay_of_shaped sd) (room_in_shaped sd hu) ⟨.bl _, H, I, rfl, q⟩
theorem op_mulS {X : Cx} : OpR X (binaryOp .Mult) (fun x y H Q => ∃ (i : Str) (k : Int), x = .str i ∧ y = .int k ∧ i.length ≤ 16 ∧ 0 ≤ k ∧ k ≤ 1048576 ∧ ∀ z : Str, (z.length : Int) = (i.length : Int) * k → Q (.str z) H) := by
  intro pins s σ H x y v u Q I rx ry h
  obtain ⟨i, k, rfl, rfl, h1, h2, h3, q⟩ := h
  obtain ⟨t, rfl⟩ := rx
  obtain ⟨t', rfl⟩ := ry
  exact PySem.W.KXi.mul rfl h1 (by omega) h3 fun tt tk _ e => ⟨.str (Txt.mul i k), H, I.tok _, ⟨tt, rfl⟩, q _ (e h2)⟩
end RPL

/-! ### texts, bent -/
abbrev s_law_sign : Stmt := topS 27
theorem sc_law_sign : FnScope ["_law_pool_here", "_law_some"] ["_law_pool_here"] (defScope s_law_sign) := ⟨rfl, rfl, rfl, by decide +kernel, rfl, by decide +kernel, by decide +kernel⟩
abbrev s_law_bent_text : Stmt := topS 28
theorem sc_law_bent_text : FnScope ["_law_pool_here", "_law_text", "_law_way", "_law_at", "_law_words", "_law_some"] ["_law_pool_here", "_law_text"] (defScope s_law_bent_text) := ⟨rfl, rfl, rfl, by decide +kernel, rfl, by decide +kernel, by decide +kernel⟩
section
variable {P : Program} {w : World} {K : PySem.W.Frag} {mg : Str → Option Value} {base : Heap}
def spSign : Sp := fun vs H Q _ => ∃ (a : PA) (c : Nat), vs = [.ref a.p] ∧ Pool H a c ∧ c < 900000 ∧ ∀ H' (z : Str), Pool H' a (c + 1) → Kp a H H' → z.length = 1 → Q (.str z) H'
def signsA : Str := " !\"#$&'()*+,-./0123456789:;<=>?@ABCDEFGHIJKLMNOPQRSTUVWXYZ[\\]^_`"
def signsB : Str := "abcdefghijklmnopqrstuvwxyz{|}~\n"
theorem ok_sign {f : Addr} {fd : FuncData} (F : Fun K "_law_sign" "_law_sign" s_law_sign f fd) (T : Bi mg) (c_law_draw : Cal P w K mg base 1 "_law_draw" ["_law_pool_here", "_law_many"] spDraw) : FnOk P w K mg base CX0 2 f fd ["_law_pool_here"] spSign := by
  refine F.ok sc_law_sign (fun vs H Q E h => ?_) (fun cdv A outer s H vs Q E hr h => ?_)
  · obtain ⟨a, c, rfl, _⟩ := h
    rfl
  · obtain ⟨a, c, rfl, P0, hc, q⟩ := h
    refine ⟨_, (pss_cons (ps_set (i := 1) sc_law_sign.nd rfl (.inl rfl) pe_str)
      (pss_cons (ps_set (i := 1) sc_law_sign.nd rfl (.inl rfl) (pe_op op_add_str (pv 1) pe_str))
      (pss_one (ps_ret (pe_ix ix_str (pv 1) (pe_call c_law_draw.G hr (by rfl) c_law_draw.g c_law_draw.kp c_law_draw.b .nil pass0 (pa_cons (pv 0) (pa_cons (pe_callB call_len_str (by rfl) T.len PySem.boot_len (pa_cons (pv 1) pa_nil)) pa_nil))) (fun _ _ => rfl)))))), ?_⟩
    have l96 : (signsA ++ signsB).length = 95 := by decide +kernel
    refine ⟨_, rfl, signsA, signsB, rfl, rfl, by show signsA.length + signsB.length ≤ sizeLine; rw [← app_len, l96]; decide, ?_⟩
    refine ⟨_, rfl, _, rfl, _, rfl, _, rfl, szOk (by rw [l96]; decide), a, c, _, rfl, P0, by omega, by rw [l96]; decide, by rw [l96]; decide, fun H1 r r0 r1 P1 k1 => ?_⟩
    rw [l96] at r1
    obtain ⟨j, rfl⟩ : ∃ j : Nat, r = (j : Int) := ⟨r.toNat, by omega⟩
    have hj : j < (signsA ++ signsB).cps.toList.length := by
      rw [Array.length_toList]
      show j < (signsA ++ signsB).length
      omega
    exact ⟨_, _, _, rfl, rfl, szOk (by rw [l96]; decide), atI_nat (List.getElem?_eq_getElem hj), q H1 _ P1 k1 rfl⟩
/-! what a list of words weighs -/
def wt (l : List Str) : Nat := (l.map (·.length)).sum + l.length
theorem wt_app (a b : List Str) : wt (a ++ b) = wt a + wt b := by
  unfold wt
  rw [List.map_append, List.sum_append, List.length_append]
  omega
theorem wt_take (l : List Str) (k : Nat) : wt (l.take k) ≤ wt l := by
  have := wt_app (l.take k) (l.drop k)
  rw [List.take_append_drop] at this
  omega
theorem wt_drop (l : List Str) (k : Nat) : wt (l.drop k) ≤ wt l := by
  have := wt_app (l.take k) (l.drop k)
  rw [List.take_append_drop] at this
  omega
theorem jn_wt : ∀ l : List Str, (jn l).length ≤ wt l
  | [] => by decide
  | [x] => by
    rw [jn_one]
    show x.length ≤ x.length + 0 + 1
    omega
  | x :: y :: r => by
    rw [jn_cons x (by simp), app_len, app_len]
    have h2 := jn_wt (y :: r)
    have h3 : sp1.length = 1 := by decide
    have h4 : wt (x :: y :: r) = x.length + 1 + wt (y :: r) := by
      rw [show x :: y :: r = [x] ++ (y :: r) from rfl, wt_app]
      rfl
    omega
theorem wt_split (z : Str) : wt (Txt.split z sp1) ≤ z.length + 1 := split_weight z sp1 (by decide)
theorem dbl_len (c : Nat) : ∀ l : List Nat, (StrLaws.dbl c l).length ≤ 2 * l.length
  | [] => Nat.le_refl _
  | k :: r => by
    have := dbl_len c r
    unfold StrLaws.dbl
    split <;> simp only [List.length_cons] <;> omega
theorem rep_len (z : Str) : (Txt.replace z (Str.ofString " ") (Str.ofString "  ")).length ≤ 2 * z.length := by
  have e1 : Str.ofString " " = (⟨#[32]⟩ : Str) := by decide +kernel
  have e2 : Str.ofString "  " = (⟨#[32, 32]⟩ : Str) := by decide +kernel
  rw [e1, e2]
  show (Txt.replace z ⟨#[32]⟩ ⟨#[32, 32]⟩).cps.size ≤ 2 * z.cps.size
  rw [← Array.length_toList, ← Array.length_toList, StrLaws.replace_double]
  exact dbl_len _ _
def moreL : List Str := ["mark", "abcdefghi", "a1", "some next", ">", "0"]
def someL : List Str := wordsL ++ moreL
theorem some_len {x : Str} (h : x ∈ someL) : x.length ≤ 9 := by
  have : ∀ y ∈ someL, y.length ≤ 9 := by decide +kernel
  exact this x h
theorem cutA {ws : List Str} {k : Nat} : cutV (ws.map V.str) none (some ((k : Nat) : Int)) = (ws.take k).map V.str := by rw [cut_to, List.map_take]
theorem cutB {ws : List Str} {k : Nat} (h : k ≤ ws.length) : cutV (ws.map V.str) (some ((k : Nat) : Int)) none = (ws.drop k).map V.str := by rw [cut_from (by rw [List.length_map]; exact h), List.map_drop]
def spBT : Sp := fun vs H Q _ => ∃ (a : PA) (c : Nat) (z : Str), vs = [.ref a.p, .str z] ∧ Pool H a c ∧ c < 800000 ∧ z.length ≤ 20000 ∧ ∀ H' (y : Str), Pool H' a (c + 4) → Kp a H H' → y.length ≤ 3 * z.length + 30 → Q (.str y) H'
theorem ok_bend {f : Addr} {fd : FuncData} (F : Fun K "_law_bent_text" "_law_bent_text" s_law_bent_text f fd) (T : Bi mg) (c_law_draw : Cal P w K mg base 1 "_law_draw" ["_law_pool_here", "_law_many"] spDraw) (c_law_sign : Cal P w K mg base 2 "_law_sign" ["_law_pool_here"] spSign) : FnOk P w K mg base CX0 3 f fd ["_law_pool_here", "_law_text"] spBT := by
  refine F.ok sc_law_bent_text (fun vs H Q E h => ?_) (fun cdv A outer s H vs Q E hr h => ?_)
  · obtain ⟨a, c, z, rfl, _⟩ := h
    rfl
  · obtain ⟨PL, c, z, rfl, P0, hc, lz, q⟩ := h
    refine ⟨_, (pss_cons (ps_set (i := 2) sc_law_bent_text.nd rfl (.inl rfl) (pe_call c_law_draw.G (hr.mono (by decide)) (by rfl) c_law_draw.g c_law_draw.kp c_law_draw.b .nil pass0 (pa_cons (pv 0) (pa_cons pe_int pa_nil))))
      (pss_cons (ps_set (i := 3) sc_law_bent_text.nd rfl (.inl rfl) (pe_call c_law_draw.G (hr.mono (by decide)) (by rfl) c_law_draw.g c_law_draw.kp c_law_draw.b .nil pass0 (pa_cons (pv 0) (pa_cons (pe_op op_add (pe_callB call_len_str (by rfl) T.len PySem.boot_len (pa_cons (pv 1) pa_nil)) pe_int) pa_nil))))
      (pss_cons (ps_if (pt_cmpR op_eq (pv 2) pe_int (nomark _))
        (pss_one (ps_ret (pe_op op_add_str (pe_op op_add_str (pe_slice sl_str (pv 1) po_none (po_some (pv 3))) (pe_call c_law_sign.G hr (by rfl) c_law_sign.g c_law_sign.kp c_law_sign.b .nil pass0 (pa_cons (pv 0) pa_nil))) (pe_slice sl_str (pv 1) (po_some (pv 3)) po_none))))
        pss_nil)
      (pss_cons (ps_if (pt_cmpR op_eq (pv 2) pe_int (nomark _))
        (pss_one (ps_ret (pe_op op_add_str (pe_slice sl_str (pv 1) po_none (po_some (pv 3))) (pe_slice sl_str (pv 1) (po_some (pe_op op_add (pv 3) pe_int)) po_none))))
        pss_nil)
      (pss_cons (ps_if (pt_cmpR op_eq (pv 2) pe_int (nomark _))
        (pss_one (ps_ret (pe_op op_add_str (pe_op op_add_str (pe_slice sl_str (pv 1) po_none (po_some (pv 3))) (pe_call c_law_sign.G hr (by rfl) c_law_sign.g c_law_sign.kp c_law_sign.b .nil pass0 (pa_cons (pv 0) pa_nil))) (pe_slice sl_str (pv 1) (po_some (pe_op op_add (pv 3) pe_int)) po_none))))
        pss_nil)
      (pss_cons (ps_if (pt_cmpR op_eq (pv 2) pe_int (nomark _))
        (pss_one (ps_ret (pe_ix ix_list (pe_lst (RPL.pa_cons1 op_add_str (pv 1) (pat_cons (CwR.PET.of (pe_op op_add_str pe_str (pv 1))) (pat_cons (CwR.PET.of (pe_op op_add_str (pv 1) pe_str)) (pat_cons (CwR.PET.of pe_str) (pat_cons (CwR.PET.of (pe_upper (pv 1))) (pat_cons (CwR.pet_replC (pv 1)) pat_nil))))))) (pe_call c_law_draw.G (hr.mono (by decide)) (by rfl) c_law_draw.g c_law_draw.kp c_law_draw.b .nil pass0 (pa_cons (pv 0) (pa_cons pe_int pa_nil))) (fun _ _ => rfl))))
        pss_nil)
      (pss_cons (ps_set (i := 4) sc_law_bent_text.nd rfl (.inl rfl) (pe_split (pv 1) pe_str))
      (pss_cons (ps_set (i := 3) sc_law_bent_text.nd rfl (.inl rfl) (pe_call c_law_draw.G (hr.mono (by decide)) (by rfl) c_law_draw.g c_law_draw.kp c_law_draw.b .nil pass0 (pa_cons (pv 0) (pa_cons (pe_callB call_len_seq (by rfl) T.len PySem.boot_len (pa_cons (pv 4) pa_nil)) pa_nil))))
      (pss_cons (ps_if (pt_cmpR op_eq (pv 2) pe_int (nomark _))
        (pss_one (ps_ret (pe_join pe_str (pe_op op_cat (pe_slice sl_list (pv 4) po_none (po_some (pv 3))) (pe_slice sl_list (pv 4) (po_some (pe_op op_add (pv 3) pe_int)) po_none)))))
        pss_nil)
      (pss_cons (ps_if (pt_cmpR op_eq (pv 2) pe_int (nomark _))
        (pss_one (ps_ret (pe_join pe_str (pe_op op_cat (pe_slice sl_list (pv 4) po_none (po_some (pe_op op_add (pv 3) pe_int))) (pe_slice sl_list (pv 4) (po_some (pv 3)) po_none)))))
        pss_nil)
      (pss_cons (ps_if (pt_cmpR op_eq (pv 2) pe_int (nomark _))
        (pss_one (ps_ret (pe_join pe_str (pe_op op_cat (pe_slice sl_list (pv 4) (po_some (pv 3)) po_none) (pe_slice sl_list (pv 4) po_none (po_some (pv 3)))))))
        pss_nil)
      (pss_cons (ps_set (i := 5) sc_law_bent_text.nd rfl (.inl rfl) (pe_lst (pa_cons pe_str (pa_cons pe_str (pa_cons pe_str (pa_cons pe_str (pa_cons pe_str (pa_cons pe_str (pa_cons pe_str (pa_cons pe_str (pa_cons pe_str (pa_cons pe_str (pa_cons pe_str (pa_cons pe_str (pa_cons pe_str pa_nil)))))))))))))))
      (pss_cons (ps_set (i := 5) sc_law_bent_text.nd rfl (.inl rfl) (pe_op op_cat (pv 5) (pe_lst (pa_cons pe_str (pa_cons pe_str (pa_cons pe_str (pa_cons pe_str (pa_cons pe_str (pa_cons pe_str pa_nil)))))))))
      (pss_one (ps_ret (pe_join pe_str (pe_op op_cat (pe_op op_cat (pe_slice sl_list (pv 4) po_none (po_some (pv 3))) (pe_lst (pa_cons (pe_ix ix_list (pv 5) (pe_call c_law_draw.G (hr.mono (by decide)) (by rfl) c_law_draw.g c_law_draw.kp c_law_draw.b .nil pass0 (pa_cons (pv 0) (pa_cons (pe_callB call_len_seq (by rfl) T.len PySem.boot_len (pa_cons (pv 5) pa_nil)) pa_nil))) (fun _ _ => rfl)) pa_nil))) (pe_slice sl_list (pv 4) (po_some (pe_op op_add (pv 3) pe_int)) po_none)))))))))))))))))), ?_⟩
    refine ⟨_, rfl, PL, c, 8, rfl, P0, by omega, by decide, by decide, fun H1 way w0 w1 P1 k1 => ?_⟩
    refine ⟨_, rfl, _, rfl, z, rfl, szOk (by omega), _, _, rfl, rfl, PL, _, _, rfl, P1, by omega, by show (0 : Int) < (z.length : Int) + 1; omega, by show (z.length : Int) + 1 < 1073741824; omega, fun H2 at_ a0 a1 P2 k2 => ?_⟩
    have ct := fun lo hi => cutS_length z lo hi
    refine ⟨_, rfl, rfl, _, rfl, ite2 (fun _ => ?_) (fun _ => ?_)⟩
    · have c1 := ct none (some at_)
      have c2 := ct (some at_) none
      refine ⟨_, rfl, _, rfl, at_, rfl, z, rfl, szOk (by omega), _, rfl, PL, _, rfl, P2, by omega, fun H3 y P3 k3 ly => ⟨_, _, rfl, rfl, szOk (by omega), _, rfl, _, rfl, at_, rfl, z, rfl, szOk (by omega), _, _, rfl, rfl, szOk (by rw [app_len]; omega), ?_⟩⟩
      exact q _ _ (P3.mono (by omega)) ((k1.trans k2).trans k3) (by rw [app_len, app_len]; omega)
    refine ⟨_, rfl, rfl, _, rfl, ite2 (fun _ => ?_) (fun _ => ?_)⟩
    · have c1 := ct none (some at_)
      have c2 := ct (some (at_ + 1)) none
      refine ⟨_, rfl, _, rfl, at_, rfl, z, rfl, szOk (by omega), _, rfl, _, rfl, _, _, rfl, rfl, at_ + 1, rfl, z, rfl, szOk (by omega), _, _, rfl, rfl, szOk (by omega), ?_⟩
      exact q _ _ (P2.mono (by omega)) (k1.trans k2) (by rw [app_len]; omega)
    refine ⟨_, rfl, rfl, _, rfl, ite2 (fun _ => ?_) (fun _ => ?_)⟩
    · have c1 := ct none (some at_)
      have c2 := ct (some (at_ + 1)) none
      refine ⟨_, rfl, _, rfl, at_, rfl, z, rfl, szOk (by omega), _, rfl, PL, _, rfl, P2, by omega, fun H3 y P3 k3 ly => ⟨_, _, rfl, rfl, szOk (by omega), _, rfl, _, rfl, _, _, rfl, rfl, at_ + 1, rfl, z, rfl, szOk (by omega), _, _, rfl, rfl, szOk (by rw [app_len]; omega), ?_⟩⟩
      exact q _ _ (P3.mono (by omega)) ((k1.trans k2).trans k3) (by rw [app_len, app_len]; omega)
    refine ⟨_, rfl, rfl, _, rfl, ite2 (fun _ => ?_) (fun _ => ?_)⟩
    · have u1 := len_upper z
      have u2 := rep_len z
      have l1 : (Str.ofString "\n").length = 1 := by decide
      have l2 : (Str.ofString " ").length = 1 := by decide
      have l3 : (Str.ofString "  ").length = 2 := by decide
      refine ⟨_, rfl, z, _, rfl, rfl, szOk (by omega), _, rfl, _, _, rfl, rfl, szOk (by omega), _, rfl, z, _, rfl, rfl, szOk (by omega), _, rfl, ⟨_, rfl⟩, z, rfl, rfl, by omega, _, rfl, z, rfl, by rw [l3]; omega, ?_⟩
      refine ⟨by show 6 ≤ sizeLine; decide, fun l hl => ?_⟩
      have sl := same_upd (o := .lst (([z ++ Str.ofString "\n", Str.ofString " " ++ z, z ++ Str.ofString " ", Str.ofString "", Txt.upper z, Txt.replace z (Str.ofString " ") (Str.ofString "  ")] : List Str).map V.str)) hl
      have hl0 : (L2.upd H2 l (.lst (([z ++ Str.ofString "\n", Str.ofString " " ++ z, z ++ Str.ofString " ", Str.ofString "", Txt.upper z, Txt.replace z (Str.ofString " ") (Str.ofString "  ")] : List Str).map V.str))) l = some (.lst (([z ++ Str.ofString "\n", Str.ofString " " ++ z, z ++ Str.ofString " ", Str.ofString "", Txt.upper z, Txt.replace z (Str.ofString " ") (Str.ofString "  ")] : List Str).map V.str)) := upd_same
      have all : ∀ x ∈ ([z ++ Str.ofString "\n", Str.ofString " " ++ z, z ++ Str.ofString " ", Str.ofString "", Txt.upper z, Txt.replace z (Str.ofString " ") (Str.ofString "  ")] : List Str), x.length ≤ 3 * z.length + 30 := by
        have l0 : (Str.ofString "").length = 0 := by decide
        simp only [List.mem_cons, List.not_mem_nil, or_false]
        rintro x (rfl | rfl | rfl | rfl | rfl | rfl)
        · rw [app_len]; omega
        · rw [app_len]; omega
        · rw [app_len]; omega
        · omega
        · omega
        · omega
      have len6 : ([z ++ Str.ofString "\n", Str.ofString " " ++ z, z ++ Str.ofString " ", Str.ofString "", Txt.upper z, Txt.replace z (Str.ofString " ") (Str.ofString "  ")] : List Str).length = 6 := rfl
      have ol := P2.off hl
      refine ⟨_, rfl, PL, _, 6, rfl, P2.same sl, by omega, by decide, by decide, fun H3 r r0 r1 P3 k3 => ?_⟩
      have hl3 := k3 _ _ hl0 ol
      generalize ([z ++ Str.ofString "\n", Str.ofString " " ++ z, z ++ Str.ofString " ", Str.ofString "", Txt.upper z, Txt.replace z (Str.ofString " ") (Str.ofString "  ")] : List Str) = L6 at hl3 all len6
      obtain ⟨j, rfl⟩ : ∃ j : Nat, r = (j : Int) := ⟨r.toNat, by omega⟩
      have hj : L6[j]? = some (L6[j]'(by omega)) := List.getElem?_eq_getElem _
      refine ⟨l, _, _, _, rfl, rfl, SqL.of hl3, atI_nat (get_map hj), ?_⟩
      exact q H3 _ (P3.mono (by omega)) (((k1.trans k2).trans (skp sl)).trans k3) (all _ (List.mem_of_getElem? hj))
    refine ⟨_, rfl, ⟨_, rfl⟩, z, sp1, rfl, rfl, by decide, szOk (by omega), fun wl hwl => ?_⟩
    have hw := wt_split z
    have lw : 1 ≤ (Txt.split z sp1).length := split_pos z sp1
    have sw := same_upd (o := .lst ((Txt.split z sp1).map V.str)) hwl
    have w2 : (L2.upd H2 wl (.lst ((Txt.split z sp1).map V.str))) wl = some (.lst ((Txt.split z sp1).map V.str)) := upd_same
    have P2' := P2.same sw
    have k2' := (k1.trans k2).trans (skp sw)
    have ow := P2.off hwl
    generalize (L2.upd H2 wl (.lst ((Txt.split z sp1).map V.str))) = H2' at w2 P2' k2'
    generalize Txt.split z sp1 = ws at hw lw w2
    have lw2 : ws.length ≤ 20001 := by
      have : wt ws = (ws.map (·.length)).sum + ws.length := rfl
      omega
    refine ⟨_, rfl, _, rfl, wl, _, rfl, .inl (SqL.of w2), PL, _, _, rfl, P2', by omega, by rw [List.length_map]; omega, by rw [List.length_map]; omega, fun H3 at2 b0 b1 P3 k3 => ?_⟩
    rw [List.length_map] at b1
    obtain ⟨k, rfl⟩ : ∃ k : Nat, at2 = (k : Int) := ⟨at2.toNat, by omega⟩
    have hk : k < ws.length := by omega
    have ek : ((k : Nat) : Int) + 1 = ((k + 1 : Nat) : Int) := rfl
    have w3 := k3 _ _ w2 ow
    have K3 := k2'.trans k3
    have P3' : Pool H3 PL (c + 4) := P3.mono (by omega)
    have tk := wt_take ws k
    have dk := wt_drop ws (k + 1)
    have tk1 := wt_take ws (k + 1)
    have dk1 := wt_drop ws k
    -- two parts of the words, joined
    have fin2 : ∀ (L : List Str) (H4 : Hp), wt L ≤ 2 * wt ws + 20 → Pool H4 PL (c + 4) → Kp PL H H4 → (L.map (·.length)).sum + L.length * (Str.ofString " ").length ≤ 16777216 ∧ Q (.str (Txt.join (Str.ofString " ") L)) H4 := by
      intro L H4 ha P4 K4
      refine ⟨?_, ?_⟩
      · have l2 : (Str.ofString " ").length = 1 := by decide
        rw [l2, Nat.mul_one]
        show wt L ≤ 16777216
        omega
      · refine q H4 _ P4 K4 ?_
        show (Txt.join sp1 L).length ≤ _
        rw [join_txt]
        have := jn_wt L
        omega
    refine ⟨_, rfl, rfl, _, rfl, ite2 (fun _ => ?_) (fun _ => ?_)⟩
    · refine ⟨⟨_, rfl⟩, _, rfl, _, rfl, k, rfl, wl, _, rfl, SqL.of w3, fun p1 hp1 => ?_⟩
      have s1 := same_upd (o := .lst (cutV (ws.map V.str) none (some ((k : Nat) : Int)))) hp1
      refine ⟨_, rfl, _, rfl, _, _, rfl, rfl, ((k + 1 : Nat) : Int), rfl, wl, _, rfl, SqL.of (s1 _ _ w3), fun p2 hp2 => ?_⟩
      have s2 := same_upd (o := .lst (cutV (ws.map V.str) (some ((k + 1 : Nat) : Int)) none)) hp2
      refine ⟨p1, p2, _, _, rfl, rfl, s2 _ _ upd_same, upd_same, szOk (by rw [cutA, cutB (by omega), List.length_map, List.length_map, List.length_take, List.length_drop]; omega), fun p3 hp3 => ?_⟩
      have s3 := same_upd (o := .lst (cutV (ws.map V.str) none (some ((k : Nat) : Int)) ++ cutV (ws.map V.str) (some ((k + 1 : Nat) : Int)) none)) hp3
      have s123 := (s1.trans s2).trans s3
      obtain ⟨e1, e2⟩ := fin2 (ws.take k ++ ws.drop (k + 1)) _ (by rw [wt_app]; omega) (P3'.same s123) (K3.trans (skp s123))
      exact ⟨_, p3, ws.take k ++ ws.drop (k + 1), rfl, rfl, .inl (SqL.of (by rw [upd_same, List.map_append, cutA, cutB (by omega)])), e1, e2⟩
    refine ⟨_, rfl, rfl, _, rfl, ite2 (fun _ => ?_) (fun _ => ?_)⟩
    · refine ⟨⟨_, rfl⟩, _, rfl, _, rfl, _, _, rfl, rfl, ((k + 1 : Nat) : Int), rfl, wl, _, rfl, SqL.of w3, fun p1 hp1 => ?_⟩
      have s1 := same_upd (o := .lst (cutV (ws.map V.str) none (some ((k + 1 : Nat) : Int)))) hp1
      refine ⟨_, rfl, _, rfl, k, rfl, wl, _, rfl, SqL.of (s1 _ _ w3), fun p2 hp2 => ?_⟩
      have s2 := same_upd (o := .lst (cutV (ws.map V.str) (some ((k : Nat) : Int)) none)) hp2
      refine ⟨p1, p2, _, _, rfl, rfl, s2 _ _ upd_same, upd_same, szOk (by rw [cutA, cutB (by omega), List.length_map, List.length_map, List.length_take, List.length_drop]; omega), fun p3 hp3 => ?_⟩
      have s3 := same_upd (o := .lst (cutV (ws.map V.str) none (some ((k + 1 : Nat) : Int)) ++ cutV (ws.map V.str) (some ((k : Nat) : Int)) none)) hp3
      have s123 := (s1.trans s2).trans s3
      obtain ⟨e1, e2⟩ := fin2 (ws.take (k + 1) ++ ws.drop k) _ (by rw [wt_app]; omega) (P3'.same s123) (K3.trans (skp s123))
      exact ⟨_, p3, ws.take (k + 1) ++ ws.drop k, rfl, rfl, .inl (SqL.of (by rw [upd_same, List.map_append, cutA, cutB (by omega)])), e1, e2⟩
    refine ⟨_, rfl, rfl, _, rfl, ite2 (fun _ => ?_) (fun _ => ?_)⟩
    · refine ⟨⟨_, rfl⟩, _, rfl, _, rfl, k, rfl, wl, _, rfl, SqL.of w3, fun p1 hp1 => ?_⟩
      have s1 := same_upd (o := .lst (cutV (ws.map V.str) (some ((k : Nat) : Int)) none)) hp1
      refine ⟨_, rfl, _, rfl, k, rfl, wl, _, rfl, SqL.of (s1 _ _ w3), fun p2 hp2 => ?_⟩
      have s2 := same_upd (o := .lst (cutV (ws.map V.str) none (some ((k : Nat) : Int)))) hp2
      refine ⟨p1, p2, _, _, rfl, rfl, s2 _ _ upd_same, upd_same, szOk (by rw [cutA, cutB (by omega), List.length_map, List.length_map, List.length_take, List.length_drop]; omega), fun p3 hp3 => ?_⟩
      have s3 := same_upd (o := .lst (cutV (ws.map V.str) (some ((k : Nat) : Int)) none ++ cutV (ws.map V.str) none (some ((k : Nat) : Int)))) hp3
      have s123 := (s1.trans s2).trans s3
      obtain ⟨e1, e2⟩ := fin2 (ws.drop k ++ ws.take k) _ (by rw [wt_app]; omega) (P3'.same s123) (K3.trans (skp s123))
      exact ⟨_, p3, ws.drop k ++ ws.take k, rfl, rfl, .inl (SqL.of (by rw [upd_same, List.map_append, cutA, cutB (by omega)])), e1, e2⟩
    refine ⟨by show 13 ≤ sizeLine; decide, fun l1 hl1 => ?_⟩
    have t1 := same_upd (o := .lst (wordsL.map V.str)) hl1
    refine ⟨_, rfl, by show 6 ≤ sizeLine; decide, fun l2 hl2 => ?_⟩
    have t2 := same_upd (o := .lst (moreL.map V.str)) hl2
    refine ⟨l1, l2, _, _, rfl, rfl, t2 _ _ upd_same, upd_same, by show 19 ≤ sizeLine; decide, fun l3 hl3 => ?_⟩
    have t3 := same_upd (o := .lst (someL.map V.str)) hl3
    have x3 : (L2.upd (L2.upd (L2.upd H3 l1 (.lst (wordsL.map V.str))) l2 (.lst (moreL.map V.str))) l3 (.lst (someL.map V.str))) l3 = some (.lst (someL.map V.str)) := upd_same
    have t123 := (t1.trans t2).trans t3
    have w4 := t123 _ _ w3
    have P4 := P3.same t123
    have K4 := K3.trans (skp t123)
    refine ⟨⟨_, rfl⟩, _, rfl, _, rfl, k, rfl, wl, _, rfl, SqL.of w4, fun p1 hp1 => ?_⟩
    have s1 := same_upd (o := .lst (cutV (ws.map V.str) none (some ((k : Nat) : Int)))) hp1
    have o3 := P4.off (b := p1) hp1
    have x4 := s1 _ _ x3
    have ol3 : Off PL l3 := ((P3.same (t1.trans t2)).off hl3)
    have P5 := P4.same s1
    refine ⟨_, rfl, _, rfl, _, rfl, l3, _, rfl, .inl (SqL.of x4), PL, _, 19, rfl, P5, by omega, by decide, by decide, fun H5 r r0 r1 P6 k6 => ?_⟩
    obtain ⟨j, rfl⟩ : ∃ j : Nat, r = (j : Int) := ⟨r.toNat, by omega⟩
    have ls : someL.length = 19 := rfl
    have hj : someL[j]? = some (someL[j]'(by omega)) := List.getElem?_eq_getElem _
    have x6 := k6 _ _ x4 ol3
    have w6 := k6 _ _ (s1 _ _ w4) ow
    have p16 := k6 _ _ (show (L2.upd _ p1 (.lst (cutV (ws.map V.str) none (some ((k : Nat) : Int))))) p1 = _ from upd_same) o3
    have hx9 := some_len (List.mem_of_getElem? hj)
    generalize someL[j]'(by omega) = x at hj hx9
    refine ⟨l3, _, _, _, rfl, rfl, SqL.of x6, atI_nat (get_map hj), by show 1 ≤ sizeLine; decide, fun p2 hp2 => ?_⟩
    have s2 := same_upd (o := .lst [.str x]) hp2
    refine ⟨p1, p2, _, _, rfl, rfl, s2 _ _ p16, upd_same, szOk (by rw [cutA, List.length_map, List.length_take]; show _ + 1 ≤ _; omega), fun p3 hp3 => ?_⟩
    have s3 := same_upd (o := .lst (cutV (ws.map V.str) none (some ((k : Nat) : Int)) ++ [.str x])) hp3
    refine ⟨_, rfl, _, rfl, _, _, rfl, rfl, ((k + 1 : Nat) : Int), rfl, wl, _, rfl, SqL.of (s3 _ _ (s2 _ _ w6)), fun p4 hp4 => ?_⟩
    have s4 := same_upd (o := .lst (cutV (ws.map V.str) (some ((k + 1 : Nat) : Int)) none)) hp4
    refine ⟨p3, p4, _, _, rfl, rfl, s4 _ _ upd_same, upd_same, szOk (by rw [cutA, cutB (by omega), List.length_append, List.length_map, List.length_map, List.length_take, List.length_drop]; show _ + 1 + _ ≤ _; omega), fun p5 hp5 => ?_⟩
    have s5 := same_upd (o := .lst ((cutV (ws.map V.str) none (some ((k : Nat) : Int)) ++ [.str x]) ++ cutV (ws.map V.str) (some ((k + 1 : Nat) : Int)) none)) hp5
    have s25 := ((s2.trans s3).trans s4).trans s5
    have wx : wt [x] ≤ 10 := by show x.length + 0 + 1 ≤ 10; omega
    obtain ⟨e1, e2⟩ := fin2 (ws.take k ++ [x] ++ ws.drop (k + 1)) _ (by rw [wt_app, wt_app]; omega) ((P6.mono (by omega)).same s25) (((K4.trans (skp s1)).trans k6).trans (skp s25))
    exact ⟨_, p5, ws.take k ++ [x] ++ ws.drop (k + 1), rfl, rfl, .inl (SqL.of (by rw [upd_same, List.map_append, List.map_append, cutA, cutB (by omega)]; rfl)), e1, e2⟩
end

/-! ### texts with an odd line -/
abbrev s_law_odd_line : Stmt := topS 34
theorem sc_law_odd_line : FnScope ["_law_pool_here", "_law_text", "_law_lines", "_law_at", "_law_way", "_law_words", "_law_line_here"] ["_law_pool_here", "_law_text"] (defScope s_law_odd_line) := ⟨rfl, rfl, rfl, by decide +kernel, rfl, by decide +kernel, by decide +kernel⟩
section
variable {P : Program} {w : World} {K : PySem.W.Frag} {mg : Str → Option Value} {base : Heap}
def oddA : List Str := ["", " i"]
def oddB : List Str := ["b a >", "a a >", "> 1 0", "> 0 0", "yes >", "a > >", ">0", "a>"]
theorem oddA_len {x : Str} (h : x ∈ oddA) : x.length ≤ 2 := by
  have : ∀ y ∈ oddA, y.length ≤ 2 := by decide +kernel
  exact this x h
theorem oddB_len {x : Str} (h : x ∈ oddB) : x.length ≤ 5 := by
  have : ∀ y ∈ oddB, y.length ≤ 5 := by decide +kernel
  exact this x h
theorem wt_rev (l : List Str) : wt l.reverse = wt l := by
  unfold wt
  rw [List.map_reverse, List.sum_reverse, List.length_reverse]
theorem wt_mem {l : List Str} {x : Str} (h : x ∈ l) : x.length + 1 ≤ wt l := by
  have := len_mem h
  have : 1 ≤ l.length := by
    cases l with
    | nil => exact absurd h List.not_mem_nil
    | cons _ _ => rw [List.length_cons]; omega
  unfold wt
  omega
theorem jn_wtY {y : Str} (hy : y.length = 1) (l : List Str) : (Txt.join y l).length ≤ wt l := join_len y hy l
def spOdd : Sp := fun vs H Q _ => ∃ (a : PA) (c : Nat) (z : Str), vs = [.ref a.p, .str z] ∧ Pool H a c ∧ c < 800000 ∧ z.length ≤ 20000 ∧ (Txt.split z nlS).length ≤ 40 ∧ ∀ H' (y : Str), Pool H' a (c + 4) → Kp a H H' → y.length ≤ 2 * z.length + 60 → Q (.str y) H'
theorem ok_odd {f : Addr} {fd : FuncData} (F : Fun K "_law_odd_line" "_law_odd_line" s_law_odd_line f fd) (T : Bi mg) (c_law_draw : Cal P w K mg base 1 "_law_draw" ["_law_pool_here", "_law_many"] spDraw) : FnOk P w K mg base CX0 2 f fd ["_law_pool_here", "_law_text"] spOdd := by
  refine F.ok sc_law_odd_line (fun vs H Q E h => ?_) (fun cdv A outer s H vs Q E hr h => ?_)
  · obtain ⟨a, c, z, rfl, _⟩ := h
    rfl
  · obtain ⟨PL, c, z, rfl, P0, hc, lz, l40, q⟩ := h
    refine ⟨_, (pss_cons (ps_set (i := 2) sc_law_odd_line.nd rfl (.inl rfl) (pe_split (pv 1) pe_str))
      (pss_cons (ps_set (i := 3) sc_law_odd_line.nd rfl (.inl rfl) (pe_call c_law_draw.G hr (by rfl) c_law_draw.g c_law_draw.kp c_law_draw.b .nil pass0 (pa_cons (pv 0) (pa_cons (pe_callB call_len_seq (by rfl) T.len PySem.boot_len (pa_cons (pv 2) pa_nil)) pa_nil))))
      (pss_cons (ps_set (i := 4) sc_law_odd_line.nd rfl (.inl rfl) (pe_call c_law_draw.G hr (by rfl) c_law_draw.g c_law_draw.kp c_law_draw.b .nil pass0 (pa_cons (pv 0) (pa_cons pe_int pa_nil))))
      (pss_cons (ps_set (i := 5) sc_law_odd_line.nd rfl (.inl rfl) (pe_split (pe_ix ix_list (pv 2) (pv 3) (fun _ _ => rfl)) pe_str))
      (pss_cons (ps_set (i := 6) sc_law_odd_line.nd rfl (.inl rfl) (pe_join pe_str (pe_revL (pv 5))))
      (Evl.pss_cut (ps_if (pt_cmpR op_eq (pv 4) pe_int (nomark _))
        (pss_one (ps_set (i := 6) sc_law_odd_line.nd rfl (.inl rfl) (pe_op op_add_str (pe_op op_add_str (pe_ix ix_list (pv 2) (pv 3) (fun _ _ => rfl)) pe_str) (pe_callTy call_str_int (by rfl) T.str (by decide +kernel) (pa_cons (pe_op op_sub (pe_callB call_len_seq (by rfl) T.len PySem.boot_len (pa_cons (pv 2) pa_nil)) pe_int) pa_nil)))))
        pss_nil)
      (Evl.pss_cut (ps_if (pt_cmpR op_eq (pv 4) pe_int (nomark _))
        (pss_one (ps_set (i := 6) sc_law_odd_line.nd rfl (.inl rfl) (pe_op op_add_str (pe_op op_add_str (pe_ix ix_list (pv 2) (pv 3) (fun _ _ => rfl)) pe_str) (pe_callTy call_str_int (by rfl) T.str (by decide +kernel) (pa_cons (pe_callB call_len_seq (by rfl) T.len PySem.boot_len (pa_cons (pv 2) pa_nil)) pa_nil)))))
        pss_nil)
      (Evl.pss_cut (ps_if (pt_cmpR op_eq (pv 4) pe_int (nomark _))
        (pss_one (ps_set (i := 6) sc_law_odd_line.nd rfl (.inl rfl) (pe_op op_add_str (pe_op op_add_str pe_str (pe_ix ix_list (pe_lst (pa_cons pe_str (pa_cons pe_str pa_nil))) (pe_call c_law_draw.G hr (by rfl) c_law_draw.g c_law_draw.kp c_law_draw.b .nil pass0 (pa_cons (pv 0) (pa_cons pe_int pa_nil))) (fun _ _ => rfl))) pe_str)))
        pss_nil)
      (Evl.pss_cut (ps_if (pt_cmpR op_eq (pv 4) pe_int (nomark _))
        (pss_one (ps_set (i := 6) sc_law_odd_line.nd rfl (.inl rfl) (pe_ix ix_list (pe_lst (pa_cons pe_str (pa_cons pe_str (pa_cons pe_str (pa_cons pe_str (pa_cons pe_str (pa_cons pe_str (pa_cons pe_str (pa_cons pe_str pa_nil))))))))) (pe_call c_law_draw.G hr (by rfl) c_law_draw.g c_law_draw.kp c_law_draw.b .nil pass0 (pa_cons (pv 0) (pa_cons pe_int pa_nil))) (fun _ _ => rfl))))
        pss_nil)
      (pss_one (ps_ret (pe_join pe_str (pe_op op_cat (pe_op op_cat (pe_slice sl_list (pv 2) po_none (po_some (pv 3))) (pe_lst (pa_cons (pv 6) pa_nil))) (pe_slice sl_list (pv 2) (po_some (pe_op op_add (pv 3) pe_int)) po_none)))))))))))))), ?_⟩
    refine ⟨_, rfl, ⟨_, rfl⟩, z, nlS, rfl, rfl, by decide, szOk (by omega), fun wl hwl => ?_⟩
    have hw : wt (Txt.split z nlS) ≤ z.length + 1 := split_weight z nlS (by decide)
    have lw := split_pos z nlS
    have s1 := same_upd (o := .lst ((Txt.split z nlS).map V.str)) hwl
    have h1 : (L2.upd H wl (.lst ((Txt.split z nlS).map V.str))) wl = some (.lst ((Txt.split z nlS).map V.str)) := upd_same
    have ow := P0.off hwl
    have P1 := P0.same s1
    have K1 : Kp PL H (L2.upd H wl (.lst ((Txt.split z nlS).map V.str))) := skp s1
    generalize (L2.upd H wl (.lst ((Txt.split z nlS).map V.str))) = H1 at s1 h1 P1 K1
    generalize Txt.split z nlS = ls at *
    refine ⟨_, rfl, _, rfl, wl, _, rfl, .inl (SqL.of h1), PL, _, _, rfl, P1, by omega, by rw [List.length_map]; omega, by rw [List.length_map]; omega, fun H2 at_ a0 a1 P2 k2 => ?_⟩
    rw [List.length_map] at a1
    obtain ⟨k, rfl⟩ : ∃ k : Nat, at_ = (k : Int) := ⟨at_.toNat, by omega⟩
    have hk : k < ls.length := by omega
    have h2 := k2 _ _ h1 ow
    refine ⟨_, rfl, PL, _, 5, rfl, P2, by omega, by decide, by decide, fun H3 way w0 w1 P3 k3 => ?_⟩
    have h3 := k3 _ _ h2 ow
    have K3 := (K1.trans k2).trans k3
    have hx : ls[k]? = some ls[k] := List.getElem?_eq_getElem hk
    have lx := wt_mem (List.mem_of_getElem? hx)
    generalize ls[k] = x at hx lx
    refine ⟨_, rfl, _, rfl, wl, _, _, _, rfl, rfl, SqL.of h3, atI_nat (get_map hx), ⟨_, rfl⟩, x, spS, rfl, rfl, by decide, szOk (by omega), fun w2 hw2 => ?_⟩
    have hw5 : wt (Txt.split x spS) ≤ x.length + 1 := split_weight x spS (by decide)
    generalize Txt.split x spS = ws at *
    have s4 := same_upd (o := .lst (ws.map V.str)) hw2
    have h4w : (L2.upd H3 w2 (.lst (ws.map V.str))) w2 = some (.lst (ws.map V.str)) := upd_same
    refine ⟨⟨_, rfl⟩, _, rfl, w2, _, rfl, SqL.of h4w, fun w3 hw3 => ?_⟩
    have s5 := same_upd (o := .lst (ws.map V.str).reverse) hw3
    have s35 := s4.trans s5
    have hj := jn_wtY (y := Str.ofString " ") (by decide) ws.reverse
    rw [wt_rev] at hj
    have e1 : (Str.ofString " ").length = 1 := by decide
    refine ⟨_, w3, ws.reverse, rfl, rfl, .inl (SqL.of (by rw [upd_same, List.map_reverse])), ?_, ?_⟩
    · have := wt_rev ws
      unfold wt at this hw5
      rw [e1]
      omega
    have P5 := P3.same s35
    have K5 := K3.trans (skp (a := PL) s35)
    have h5 := s35 _ _ h3
    generalize Txt.join (Str.ofString " ") ws.reverse = x6 at hj
    generalize (L2.upd (L2.upd H3 w2 (.lst (ws.map V.str))) w3 (.lst (ws.map V.str).reverse)) = H5 at P5 K5 h5
    have l6 : x6.length ≤ z.length + 40 := by omega
    clear hj hw5 h4w
    -- a line with a nought ahead
    refine ⟨fun σ' H' => ∃ x6 : Str, σ' = [some (.ref PL.p), some (.str z), some (.ref wl), some (.int (k : Nat)), some (.int way), some (.ref w2), some (.str x6)] ∧ x6.length ≤ z.length + 40 ∧ H' = H5, ?_, ?_⟩
    · refine ⟨_, rfl, rfl, _, rfl, ite2 (fun _ => ?_) (fun _ => ⟨x6, rfl, l6, rfl⟩)⟩
      have l3 : (Str.ofString " 0").length = 2 := by decide
      obtain ⟨n, hn⟩ : ∃ n : Nat, ls.length = n + 1 := ⟨ls.length - 1, by omega⟩
      have en : ((((ls.map V.str).length : Nat) : Int) - 1) = ((n : Nat) : Int) := by rw [List.length_map]; omega
      have l8 := sI_len n (by omega)
      refine ⟨_, rfl, _, rfl, wl, _, _, _, rfl, rfl, SqL.of h5, atI_nat (get_map hx), _, _, rfl, rfl, by rw [l3]; exact szOk (by omega), _, rfl, wl, _, rfl, .inl (SqL.of h5), _, _, rfl, rfl, _, rfl, by rw [en]; exact log_small (n := n) (by omega), _, _, rfl, rfl, ?_, ?_⟩
      · rw [en]
        show (x ++ Str.ofString " 0").length + (sI ((n : Nat) : Int)).length ≤ sizeLine
        rw [app_len, l3]
        exact szOk (by omega)
      · rw [en]
        refine ⟨_, rfl, ?_, rfl⟩
        show (x ++ Str.ofString " 0" ++ sI ((n : Nat) : Int)).length ≤ _
        rw [app_len, app_len, l3]
        omega
    rintro σ H6 ⟨x6, rfl, l6, rfl⟩
    -- a number beyond the last
    refine ⟨fun σ' H' => ∃ x6 : Str, σ' = [some (.ref PL.p), some (.str z), some (.ref wl), some (.int (k : Nat)), some (.int way), some (.ref w2), some (.str x6)] ∧ x6.length ≤ z.length + 40 ∧ H' = H6, ?_, ?_⟩
    · refine ⟨_, rfl, rfl, _, rfl, ite2 (fun _ => ?_) (fun _ => ⟨x6, rfl, l6, rfl⟩)⟩
      have en : (((ls.map V.str).length : Nat) : Int) = ((ls.length : Nat) : Int) := by rw [List.length_map]
      have l8 := sI_len ls.length (by omega)
      refine ⟨_, rfl, _, rfl, wl, _, _, _, rfl, rfl, SqL.of h5, atI_nat (get_map hx), _, _, rfl, rfl, by rw [e1]; exact szOk (by omega), _, rfl, wl, _, rfl, .inl (SqL.of h5), _, rfl, by rw [en]; exact log_small (n := ls.length) (by omega), _, _, rfl, rfl, ?_, ?_⟩
      · rw [en]
        show (x ++ Str.ofString " ").length + (sI ((ls.length : Nat) : Int)).length ≤ sizeLine
        rw [app_len, e1]
        exact szOk (by omega)
      · rw [en]
        refine ⟨_, rfl, ?_, rfl⟩
        show (x ++ Str.ofString " " ++ sI ((ls.length : Nat) : Int)).length ≤ _
        rw [app_len, app_len, e1]
        omega
    rintro σ H6 ⟨x6, rfl, l6, rfl⟩
    -- eight or nine names
    refine ⟨fun σ' H' => ∃ x6 : Str, σ' = [some (.ref PL.p), some (.str z), some (.ref wl), some (.int (k : Nat)), some (.int way), some (.ref w2), some (.str x6)] ∧ x6.length ≤ z.length + 40 ∧ Pool H' PL (c + 3) ∧ Kp PL H H' ∧ H' wl = some (.lst (ls.map V.str)), ?_, ?_⟩
    · refine ⟨_, rfl, rfl, _, rfl, ite2 (fun _ => ?_) (fun _ => ⟨x6, rfl, l6, P5.mono (by omega), K5, h5⟩)⟩
      refine ⟨by show 2 ≤ sizeLine; decide, fun l hl => ?_⟩
      have sl := same_upd (o := .lst (oddA.map V.str)) hl
      have ol := P5.off hl
      refine ⟨_, rfl, PL, _, 2, rfl, P5.same sl, by omega, by decide, by decide, fun H7 r r0 r1 P7 k7 => ?_⟩
      have hl7 := k7 _ _ (show (L2.upd _ l (.lst (oddA.map V.str))) l = _ from upd_same) ol
      obtain ⟨j, rfl⟩ : ∃ j : Nat, r = (j : Int) := ⟨r.toNat, by omega⟩
      have la : oddA.length = 2 := rfl
      have hj : oddA[j]? = some (oddA[j]'(by omega)) := List.getElem?_eq_getElem _
      have l2 := oddA_len (List.mem_of_getElem? hj)
      generalize oddA[j]'(by omega) = u at hj l2
      have l15 : (Str.ofString "a b c d e f g h").length = 15 := by decide
      have l3 : (Str.ofString " >").length = 2 := by decide
      refine ⟨l, _, _, _, rfl, rfl, SqL.of hl7, atI_nat (get_map hj), _, _, rfl, rfl, by rw [l15]; exact szOk (by omega), _, _, rfl, rfl, by rw [app_len, l15, l3]; exact szOk (by omega), _, rfl, ?_, P7.mono (by omega), (K5.trans (skp sl)).trans k7, k7 _ _ (sl _ _ h5) ow⟩
      rw [app_len, app_len, l15, l3]
      omega
    rintro σ H7 ⟨x6, rfl, l6, P7, K7, h7⟩
    -- any of eight lines
    refine ⟨fun σ' H' => ∃ x6 : Str, σ' = [some (.ref PL.p), some (.str z), some (.ref wl), some (.int (k : Nat)), some (.int way), some (.ref w2), some (.str x6)] ∧ x6.length ≤ z.length + 40 ∧ Pool H' PL (c + 4) ∧ Kp PL H H' ∧ H' wl = some (.lst (ls.map V.str)), ?_, ?_⟩
    · refine ⟨_, rfl, rfl, _, rfl, ite2 (fun _ => ?_) (fun _ => ⟨x6, rfl, l6, P7.mono (by omega), K7, h7⟩)⟩
      refine ⟨by show 8 ≤ sizeLine; decide, fun l hl => ?_⟩
      have sl := same_upd (o := .lst (oddB.map V.str)) hl
      have ol := P7.off hl
      refine ⟨_, rfl, PL, _, 8, rfl, P7.same sl, by omega, by decide, by decide, fun H8 r r0 r1 P8 k8 => ?_⟩
      have hl8 := k8 _ _ (show (L2.upd _ l (.lst (oddB.map V.str))) l = _ from upd_same) ol
      obtain ⟨j, rfl⟩ : ∃ j : Nat, r = (j : Int) := ⟨r.toNat, by omega⟩
      have la : oddB.length = 8 := rfl
      have hj : oddB[j]? = some (oddB[j]'(by omega)) := List.getElem?_eq_getElem _
      have l2 := oddB_len (List.mem_of_getElem? hj)
      generalize oddB[j]'(by omega) = u at hj l2
      exact ⟨l, _, _, _, rfl, rfl, SqL.of hl8, atI_nat (get_map hj), u, rfl, by omega, P8, (K7.trans (skp sl)).trans k8, k8 _ _ (sl _ _ h7) ow⟩
    rintro σ H8 ⟨x6, rfl, l6, P8, K8, h8⟩
    refine ⟨⟨_, rfl⟩, _, rfl, _, rfl, k, rfl, wl, _, rfl, SqL.of h8, fun p1 hp1 => ?_⟩
    have s1 := same_upd (o := .lst (cutV (ls.map V.str) none (some ((k : Nat) : Int)))) hp1
    refine ⟨_, rfl, by show 1 ≤ sizeLine; decide, fun p2 hp2 => ?_⟩
    have s2 := same_upd (o := .lst [.str x6]) hp2
    refine ⟨p1, p2, _, _, rfl, rfl, s2 _ _ upd_same, upd_same, szOk (by rw [cutA, List.length_map, List.length_take]; show _ + 1 ≤ _; omega), fun p3 hp3 => ?_⟩
    have s3 := same_upd (o := .lst (cutV (ls.map V.str) none (some ((k : Nat) : Int)) ++ [.str x6])) hp3
    have s13 := (s1.trans s2).trans s3
    refine ⟨_, rfl, _, rfl, _, _, rfl, rfl, ((k + 1 : Nat) : Int), rfl, wl, _, rfl, SqL.of (s13 _ _ h8), fun p4 hp4 => ?_⟩
    have s4 := same_upd (o := .lst (cutV (ls.map V.str) (some ((k + 1 : Nat) : Int)) none)) hp4
    refine ⟨p3, p4, _, _, rfl, rfl, s4 _ _ upd_same, upd_same, szOk (by rw [cutA, cutB (by omega), List.length_append, List.length_map, List.length_map, List.length_take, List.length_drop]; show _ + 1 + _ ≤ _; omega), fun p5 hp5 => ?_⟩
    have s5 := same_upd (o := .lst ((cutV (ls.map V.str) none (some ((k : Nat) : Int)) ++ [.str x6]) ++ cutV (ls.map V.str) (some ((k + 1 : Nat) : Int)) none)) hp5
    have s15 := (s13.trans s4).trans s5
    have wx : wt [x6] = x6.length + 1 := rfl
    have tk := wt_take ls k
    have dk := wt_drop ls (k + 1)
    have wa : wt (ls.take k ++ [x6] ++ ls.drop (k + 1)) ≤ 3 * z.length + 60 := by rw [wt_app, wt_app]; omega
    have wb : wt (ls.take k ++ [x6] ++ ls.drop (k + 1)) ≤ 2 * z.length + 60 := by
      have e := congrArg wt (List.take_append_drop k ls)
      rw [wt_app] at e
      have e2 : wt (ls.drop (k + 1)) ≤ wt (ls.drop k) := by
        rw [show ls.drop (k + 1) = (ls.drop k).drop 1 by rw [List.drop_drop]]
        exact wt_drop _ _
      rw [wt_app, wt_app]
      omega
    have ln : (Str.ofString "\n").length = 1 := by decide
    refine ⟨_, p5, ls.take k ++ [x6] ++ ls.drop (k + 1), rfl, rfl, .inl (SqL.of (by rw [upd_same, List.map_append, List.map_append, cutA, cutB (by omega)]; rfl)), ?_, ?_⟩
    · rw [ln, Nat.mul_one]
      show wt (ls.take k ++ [x6] ++ ls.drop (k + 1)) ≤ 16777216
      omega
    · refine q _ _ (P8.same s15) (K8.trans (skp s15)) ?_
      have := jn_wtY (y := Str.ofString "\n") ln (ls.take k ++ [x6] ++ ls.drop (k + 1))
      omega
end

abbrev Ky := List L2.Key
structure RowsAt (K : PySem.W.Frag) (H : Hp) (c : Addr) (rows : List Ky) : Prop where
  ex : ∃ bs : List Addr, SqT K H c (bs.map V.ref) ∧ Each (fun a k => SqT K H a (k.map kV)) bs rows
theorem RowsAt.imm {K : PySem.W.Frag} {H H' : Hp} {t : Addr} {rows : List Ky} (S : RowsAt K H t rows) (e : Imm H H') : RowsAt K H' t rows := by
  obtain ⟨ra, h1, h2⟩ := S.ex
  exact ⟨ra, e.sq h1, h2.imp fun _ _ h => e.sq h⟩

/-! ### _law_same on rows that were read -/
abbrev s_law_same : Stmt := topS 26
theorem sc_law_same : FnScope ["_law_found", "_law_due", "_law_k"] ["_law_found", "_law_due"] (defScope s_law_same) := ⟨rfl, rfl, rfl, by decide +kernel, rfl, by decide +kernel, by decide +kernel⟩
section
variable {P : Program} {w : World} {K : PySem.W.Frag} {mg : Str → Option Value} {base : Heap}
def spSL : Sp := fun vs H Q _ => ∃ k : L2.Key, vs = [kV k, kV k] ∧ Q (.bl true) H
def spSR (K : PySem.W.Frag) : Sp := fun vs H Q _ => ∃ (a b : Addr) (k : Ky), vs = [.ref a, .ref b] ∧ SqT K H a (k.map kV) ∧ SqT K H b (k.map kV) ∧ k.length ≤ 90000 ∧ Q (.bl true) H
def spSW (K : PySem.W.Frag) : Sp := fun vs H Q _ => ((vs = [.non, .non]) ∨ (∃ z, vs = [.str z, .str z]) ∨ ∃ (a b : Addr) (rows : List Ky), vs = [.ref a, .ref b] ∧ RowsAt K H a rows ∧ RowsAt K H b rows ∧ rows.length ≤ 90000 ∧ ∀ k ∈ rows, k.length ≤ 90000) ∧ Q (.bl true) H
theorem ok_sameL {f : Addr} {fd : FuncData} (F : Fun K "_law_same" "_law_same" s_law_same f fd) (T : Bi mg) (g : mg "_law_same" = some (.ref f)) (kp : PySem.W.keepIn K (.ref f) = true) (b : Binds K fd ["_law_found", "_law_due"] []) : FnOk P w K mg base CX0 2 f fd ["_law_found", "_law_due"] spSL := by
  have c_law_same : Cal P w K mg base 1 "_law_same" ["_law_found", "_law_due"] (fun _ _ _ _ => False) := ⟨f, fd, ⟨fun _ _ _ _ h => h.elim, fun _ _ _ _ _ _ _ _ _ _ _ _ _ h => h.elim⟩, g, kp, b⟩
  refine F.ok sc_law_same (fun vs H Q E h => ?_) (fun cdv A outer s H vs Q E hr h => ?_)
  · obtain ⟨v, rfl, _⟩ := h
    rfl
  · obtain ⟨k, rfl, q⟩ := h
    refine ⟨_, (pss_cons (ps_if (pt_val (pe_callB call_isi (by rfl) T.isinstance (by decide +kernel) (pa_cons (pv 1) (pa_cons (pe_bltn (v := .ty "tuple") (u := .type "tuple") (by rfl) T.tuple (by decide +kernel) rfl) pa_nil))))
        (pss_cons (ps_if (PW.pt (pw_or (pt_not (pt_val (pe_callB call_isi (by rfl) T.isinstance (by decide +kernel) (pa_cons (pv 0) (pa_cons (pe_bltn (v := .ty "tuple") (u := .type "tuple") (by rfl) T.tuple (by decide +kernel) rfl) pa_nil))))) (pw_or1 (pt_cmpR op_ne (pe_callB call_len_seq (by rfl) T.len PySem.boot_len (pa_cons (pv 0) pa_nil)) (pe_callB call_len_seq (by rfl) T.len PySem.boot_len (pa_cons (pv 1) pa_nil)) (nomark _)))))
          (pss_one (ps_ret pe_bl))
          pss_nil)
        (pss_cons (ps_for PassesOwn.never rfl (pi_range1 (by rfl) T.range (pa_cons (pe_callB call_len_seq (by rfl) T.len PySem.boot_len (pa_cons (pv 1) pa_nil)) pa_nil)) (pg_name (i := 2) sc_law_same.nd rfl (.inl rfl))
          (pss_one (ps_if (pt_not (pt_val (pe_call c_law_same.G hr (by rfl) c_law_same.g c_law_same.kp c_law_same.b .nil pass0 (pa_cons (pe_ix ix_tup (pv 0) (pv 2) (fun _ _ => rfl)) (pa_cons (pe_ix ix_tup (pv 1) (pv 2) (fun _ _ => rfl)) pa_nil)))))
            (pss_one (ps_ret pe_bl))
            pss_nil)))
        (pss_one (ps_ret pe_bl))))
        pss_nil)
      (pss_cons (ps_if (pt_val (pe_callB call_isi (by rfl) T.isinstance (by decide +kernel) (pa_cons (pv 1) (pa_cons (pe_bltn (v := .ty "bool") (u := .type "bool") (by rfl) T.bool (by decide +kernel) rfl) pa_nil))))
        (pss_one (ps_ret (pe_and (pe_callB call_isi (by rfl) T.isinstance (by decide +kernel) (pa_cons (pv 0) (pa_cons (pe_bltn (v := .ty "bool") (u := .type "bool") (by rfl) T.bool (by decide +kernel) rfl) pa_nil))) (pe_one (pe_cmpR op_eq (pv 0) (pv 1) (nomark _))))))
        pss_nil)
      (pss_cons (ps_if (pt_val (pe_callB call_isi (by rfl) T.isinstance (by decide +kernel) (pa_cons (pv 1) (pa_cons (pe_bltn (v := .ty "int") (u := .type "int") (by rfl) T.int (by decide +kernel) rfl) pa_nil))))
        (pss_one (ps_ret (pe_and (pe_callB call_isi (by rfl) T.isinstance (by decide +kernel) (pa_cons (pv 0) (pa_cons (pe_bltn (v := .ty "int") (u := .type "int") (by rfl) T.int (by decide +kernel) rfl) pa_nil))) (pe_and (pe_not (pe_callB call_isi (by rfl) T.isinstance (by decide +kernel) (pa_cons (pv 0) (pa_cons (pe_bltn (v := .ty "bool") (u := .type "bool") (by rfl) T.bool (by decide +kernel) rfl) pa_nil)))) (pe_one (pe_cmpR op_eq (pv 0) (pv 1) (nomark _)))))))
        pss_nil)
      (pss_cons (ps_if (pt_val (pe_callB call_isi (by rfl) T.isinstance (by decide +kernel) (pa_cons (pv 1) (pa_cons (pe_bltn (v := .ty "str") (u := .type "str") (by rfl) T.str (by decide +kernel) rfl) pa_nil))))
        (pss_one (ps_ret (pe_and (pe_callB call_isi (by rfl) T.isinstance (by decide +kernel) (pa_cons (pv 0) (pa_cons (pe_bltn (v := .ty "str") (u := .type "str") (by rfl) T.str (by decide +kernel) rfl) pa_nil))) (pe_one (pe_cmpR op_eq (pv 0) (pv 1) (nomark _))))))
        pss_nil)
      (pss_one (ps_ret (pe_and (pe_cmpR op_isN (pv 1) pe_non (nomark _)) (pe_one (pe_cmpR op_isN (pv 0) pe_non (nomark _)))))))))), ?_⟩
    rcases k with n | z
    · refine ⟨_, rfl, _, _, _, _, false, rfl, .ty "tuple", .base (.int _), kit_ty (by decide +kernel), false, rfl, iteF ?_⟩
      refine ⟨_, rfl, _, _, _, _, false, rfl, .ty "bool", .base (.int _), kit_ty (by decide +kernel), false, rfl, iteF ?_⟩
      refine ⟨_, rfl, _, _, _, _, true, rfl, .ty "int", .base (.int _), kit_ty (by decide +kernel), true, rfl, iteT ?_⟩
      refine ⟨_, rfl, _, _, _, _, true, rfl, .ty "int", .base (.int _), kit_ty (by decide +kernel), true, rfl, iteT ?_⟩
      refine ⟨_, rfl, _, _, _, _, false, rfl, .ty "bool", .base (.int _), kit_ty (by decide +kernel), false, rfl, true, rfl, iteT ⟨_, rfl, _, rfl, rfl, ?_⟩⟩
      rw [decide_eq_true rfl]
      exact q
    · refine ⟨_, rfl, _, _, _, _, false, rfl, .ty "tuple", .base (.str _), kit_ty (by decide +kernel), false, rfl, iteF ?_⟩
      refine ⟨_, rfl, _, _, _, _, false, rfl, .ty "bool", .base (.str _), kit_ty (by decide +kernel), false, rfl, iteF ?_⟩
      refine ⟨_, rfl, _, _, _, _, false, rfl, .ty "int", .base (.str _), kit_ty (by decide +kernel), false, rfl, iteF ?_⟩
      refine ⟨_, rfl, _, _, _, _, true, rfl, .ty "str", .base (.str _), kit_ty (by decide +kernel), true, rfl, iteT ?_⟩
      refine ⟨_, rfl, _, _, _, _, true, rfl, .ty "str", .base (.str _), kit_ty (by decide +kernel), true, rfl, iteT ⟨_, rfl, _, rfl, rfl, ?_⟩⟩
      rw [decide_eq_true rfl]
      exact q
theorem ok_sameR {f : Addr} {fd : FuncData} (F : Fun K "_law_same" "_law_same" s_law_same f fd) (T : Bi mg) (c_law_same : Cal P w K mg base 2 "_law_same" ["_law_found", "_law_due"] spSL) : FnOk P w K mg base CX0 3 f fd ["_law_found", "_law_due"] (spSR K) := by
  refine F.ok sc_law_same (fun vs H Q E h => ?_) (fun cdv A outer s H vs Q E hr h => ?_)
  · obtain ⟨a, b, k, rfl, _⟩ := h
    rfl
  · obtain ⟨a, b, k, rfl, ha, hb, lk, q⟩ := h
    refine ⟨_, (pss_cons (ps_if (pt_val (pe_callB call_isi (by rfl) T.isinstance (by decide +kernel) (pa_cons (pv 1) (pa_cons (pe_bltn (v := .ty "tuple") (u := .type "tuple") (by rfl) T.tuple (by decide +kernel) rfl) pa_nil))))
        (pss_cons (ps_if (PW.pt (pw_or (pt_not (pt_val (pe_callB call_isi (by rfl) T.isinstance (by decide +kernel) (pa_cons (pv 0) (pa_cons (pe_bltn (v := .ty "tuple") (u := .type "tuple") (by rfl) T.tuple (by decide +kernel) rfl) pa_nil))))) (pw_or1 (pt_cmpR op_ne (pe_callB call_len_seq (by rfl) T.len PySem.boot_len (pa_cons (pv 0) pa_nil)) (pe_callB call_len_seq (by rfl) T.len PySem.boot_len (pa_cons (pv 1) pa_nil)) (nomark _)))))
          (pss_one (ps_ret pe_bl))
          pss_nil)
        (pss_cons (ps_for PassesOwn.never rfl (pi_range1 (by rfl) T.range (pa_cons (pe_callB call_len_seq (by rfl) T.len PySem.boot_len (pa_cons (pv 1) pa_nil)) pa_nil)) (pg_name (i := 2) sc_law_same.nd rfl (.inl rfl))
          (pss_one (ps_if (pt_not (pt_val (pe_call c_law_same.G hr (by rfl) c_law_same.g c_law_same.kp c_law_same.b .nil pass0 (pa_cons (pe_ix ix_tup (pv 0) (pv 2) (fun _ _ => rfl)) (pa_cons (pe_ix ix_tup (pv 1) (pv 2) (fun _ _ => rfl)) pa_nil)))))
            (pss_one (ps_ret pe_bl))
            pss_nil)))
        (pss_one (ps_ret pe_bl))))
        pss_nil)
      (pss_cons (ps_if (pt_val (pe_callB call_isi (by rfl) T.isinstance (by decide +kernel) (pa_cons (pv 1) (pa_cons (pe_bltn (v := .ty "bool") (u := .type "bool") (by rfl) T.bool (by decide +kernel) rfl) pa_nil))))
        (pss_one (ps_ret (pe_and (pe_callB call_isi (by rfl) T.isinstance (by decide +kernel) (pa_cons (pv 0) (pa_cons (pe_bltn (v := .ty "bool") (u := .type "bool") (by rfl) T.bool (by decide +kernel) rfl) pa_nil))) (pe_one (pe_cmpR op_eq (pv 0) (pv 1) (nomark _))))))
        pss_nil)
      (pss_cons (ps_if (pt_val (pe_callB call_isi (by rfl) T.isinstance (by decide +kernel) (pa_cons (pv 1) (pa_cons (pe_bltn (v := .ty "int") (u := .type "int") (by rfl) T.int (by decide +kernel) rfl) pa_nil))))
        (pss_one (ps_ret (pe_and (pe_callB call_isi (by rfl) T.isinstance (by decide +kernel) (pa_cons (pv 0) (pa_cons (pe_bltn (v := .ty "int") (u := .type "int") (by rfl) T.int (by decide +kernel) rfl) pa_nil))) (pe_and (pe_not (pe_callB call_isi (by rfl) T.isinstance (by decide +kernel) (pa_cons (pv 0) (pa_cons (pe_bltn (v := .ty "bool") (u := .type "bool") (by rfl) T.bool (by decide +kernel) rfl) pa_nil)))) (pe_one (pe_cmpR op_eq (pv 0) (pv 1) (nomark _)))))))
        pss_nil)
      (pss_cons (ps_if (pt_val (pe_callB call_isi (by rfl) T.isinstance (by decide +kernel) (pa_cons (pv 1) (pa_cons (pe_bltn (v := .ty "str") (u := .type "str") (by rfl) T.str (by decide +kernel) rfl) pa_nil))))
        (pss_one (ps_ret (pe_and (pe_callB call_isi (by rfl) T.isinstance (by decide +kernel) (pa_cons (pv 0) (pa_cons (pe_bltn (v := .ty "str") (u := .type "str") (by rfl) T.str (by decide +kernel) rfl) pa_nil))) (pe_one (pe_cmpR op_eq (pv 0) (pv 1) (nomark _))))))
        pss_nil)
      (pss_one (ps_ret (pe_and (pe_cmpR op_isN (pv 1) pe_non (nomark _)) (pe_one (pe_cmpR op_isN (pv 0) pe_non (nomark _)))))))))), ?_⟩
    refine ⟨_, rfl, _, _, _, _, true, rfl, .ty "tuple", ty_sqt hb, kit_ty (by decide +kernel), true, rfl, iteT ?_⟩
    refine ⟨_, rfl, _, _, _, _, true, rfl, .ty "tuple", ty_sqt ha, kit_ty (by decide +kernel), true, rfl, iteF ⟨_, rfl, a, _, rfl, .inr ha, _, rfl, b, _, rfl, .inr hb, rfl, _, rfl, ?_⟩⟩
    rw [decide_eq_true rfl]
    refine iteF ⟨_, rfl, b, _, rfl, .inr hb, _, rfl, by omega, by rw [List.length_map]; omega, for_range (lo := 0) (n := (((k.map kV).length : Nat) : Int).toNat) (fun i σ H' => ∃ y, σ = [some (.ref a), some (.ref b), y] ∧ H' = H) ⟨none, rfl, rfl⟩ ?_ ?_⟩
    · rintro i σ H' hi ⟨y, rfl, rfl⟩
      have hi : i < k.length := by
        have : i < (k.map kV).length := hi
        rw [List.length_map] at this
        exact this
      have e : (k.map kV)[i]? = some (kV k[i]) := get_map (List.getElem?_eq_getElem hi)
      refine ⟨_, rfl, _, rfl, a, _, _, _, rfl, rfl, ha, by rw [Int.zero_add]; exact atI_nat e, _, rfl, _, rfl, b, _, _, _, rfl, rfl, hb, by rw [Int.zero_add]; exact atI_nat e, k[i], rfl, true, rfl, iteF ⟨_, rfl, rfl⟩⟩
    · rintro σ H' ⟨y, rfl, rfl⟩
      exact q
theorem ok_sameW {f : Addr} {fd : FuncData} (F : Fun K "_law_same" "_law_same" s_law_same f fd) (T : Bi mg) (c_law_same : Cal P w K mg base 3 "_law_same" ["_law_found", "_law_due"] (spSR K)) : FnOk P w K mg base CX0 4 f fd ["_law_found", "_law_due"] (spSW K) := by
  refine F.ok sc_law_same (fun vs H Q E h => ?_) (fun cdv A outer s H vs Q E hr h => ?_)
  · obtain ⟨h, _⟩ := h
    rcases h with rfl | ⟨z, rfl⟩ | ⟨a, b, rows, rfl, _⟩ <;> rfl
  · obtain ⟨h, q⟩ := h
    refine ⟨_, (pss_cons (ps_if (pt_val (pe_callB call_isi (by rfl) T.isinstance (by decide +kernel) (pa_cons (pv 1) (pa_cons (pe_bltn (v := .ty "tuple") (u := .type "tuple") (by rfl) T.tuple (by decide +kernel) rfl) pa_nil))))
        (pss_cons (ps_if (PW.pt (pw_or (pt_not (pt_val (pe_callB call_isi (by rfl) T.isinstance (by decide +kernel) (pa_cons (pv 0) (pa_cons (pe_bltn (v := .ty "tuple") (u := .type "tuple") (by rfl) T.tuple (by decide +kernel) rfl) pa_nil))))) (pw_or1 (pt_cmpR op_ne (pe_callB call_len_seq (by rfl) T.len PySem.boot_len (pa_cons (pv 0) pa_nil)) (pe_callB call_len_seq (by rfl) T.len PySem.boot_len (pa_cons (pv 1) pa_nil)) (nomark _)))))
          (pss_one (ps_ret pe_bl))
          pss_nil)
        (pss_cons (ps_for PassesOwn.never rfl (pi_range1 (by rfl) T.range (pa_cons (pe_callB call_len_seq (by rfl) T.len PySem.boot_len (pa_cons (pv 1) pa_nil)) pa_nil)) (pg_name (i := 2) sc_law_same.nd rfl (.inl rfl))
          (pss_one (ps_if (pt_not (pt_val (pe_call c_law_same.G hr (by rfl) c_law_same.g c_law_same.kp c_law_same.b .nil pass0 (pa_cons (pe_ix ix_tup (pv 0) (pv 2) (fun _ _ => rfl)) (pa_cons (pe_ix ix_tup (pv 1) (pv 2) (fun _ _ => rfl)) pa_nil)))))
            (pss_one (ps_ret pe_bl))
            pss_nil)))
        (pss_one (ps_ret pe_bl))))
        pss_nil)
      (pss_cons (ps_if (pt_val (pe_callB call_isi (by rfl) T.isinstance (by decide +kernel) (pa_cons (pv 1) (pa_cons (pe_bltn (v := .ty "bool") (u := .type "bool") (by rfl) T.bool (by decide +kernel) rfl) pa_nil))))
        (pss_one (ps_ret (pe_and (pe_callB call_isi (by rfl) T.isinstance (by decide +kernel) (pa_cons (pv 0) (pa_cons (pe_bltn (v := .ty "bool") (u := .type "bool") (by rfl) T.bool (by decide +kernel) rfl) pa_nil))) (pe_one (pe_cmpR op_eq (pv 0) (pv 1) (nomark _))))))
        pss_nil)
      (pss_cons (ps_if (pt_val (pe_callB call_isi (by rfl) T.isinstance (by decide +kernel) (pa_cons (pv 1) (pa_cons (pe_bltn (v := .ty "int") (u := .type "int") (by rfl) T.int (by decide +kernel) rfl) pa_nil))))
        (pss_one (ps_ret (pe_and (pe_callB call_isi (by rfl) T.isinstance (by decide +kernel) (pa_cons (pv 0) (pa_cons (pe_bltn (v := .ty "int") (u := .type "int") (by rfl) T.int (by decide +kernel) rfl) pa_nil))) (pe_and (pe_not (pe_callB call_isi (by rfl) T.isinstance (by decide +kernel) (pa_cons (pv 0) (pa_cons (pe_bltn (v := .ty "bool") (u := .type "bool") (by rfl) T.bool (by decide +kernel) rfl) pa_nil)))) (pe_one (pe_cmpR op_eq (pv 0) (pv 1) (nomark _)))))))
        pss_nil)
      (pss_cons (ps_if (pt_val (pe_callB call_isi (by rfl) T.isinstance (by decide +kernel) (pa_cons (pv 1) (pa_cons (pe_bltn (v := .ty "str") (u := .type "str") (by rfl) T.str (by decide +kernel) rfl) pa_nil))))
        (pss_one (ps_ret (pe_and (pe_callB call_isi (by rfl) T.isinstance (by decide +kernel) (pa_cons (pv 0) (pa_cons (pe_bltn (v := .ty "str") (u := .type "str") (by rfl) T.str (by decide +kernel) rfl) pa_nil))) (pe_one (pe_cmpR op_eq (pv 0) (pv 1) (nomark _))))))
        pss_nil)
      (pss_one (ps_ret (pe_and (pe_cmpR op_isN (pv 1) pe_non (nomark _)) (pe_one (pe_cmpR op_isN (pv 0) pe_non (nomark _)))))))))), ?_⟩
    rcases h with rfl | ⟨z, rfl⟩ | ⟨a, b, rows, rfl, ha, hb, lr, lk⟩
    · refine ⟨_, rfl, _, _, _, _, false, rfl, .ty "tuple", .base .non, kit_ty (by decide +kernel), false, rfl, iteF ?_⟩
      refine ⟨_, rfl, _, _, _, _, false, rfl, .ty "bool", .base .non, kit_ty (by decide +kernel), false, rfl, iteF ?_⟩
      refine ⟨_, rfl, _, _, _, _, false, rfl, .ty "int", .base .non, kit_ty (by decide +kernel), false, rfl, iteF ?_⟩
      refine ⟨_, rfl, _, _, _, _, false, rfl, .ty "str", .base .non, kit_ty (by decide +kernel), false, rfl, iteF ?_⟩
      refine ⟨_, rfl, rfl, _, rfl, iteT ⟨_, rfl, rfl, ?_⟩⟩
      exact q
    · refine ⟨_, rfl, _, _, _, _, false, rfl, .ty "tuple", .base (.str _), kit_ty (by decide +kernel), false, rfl, iteF ?_⟩
      refine ⟨_, rfl, _, _, _, _, false, rfl, .ty "bool", .base (.str _), kit_ty (by decide +kernel), false, rfl, iteF ?_⟩
      refine ⟨_, rfl, _, _, _, _, false, rfl, .ty "int", .base (.str _), kit_ty (by decide +kernel), false, rfl, iteF ?_⟩
      refine ⟨_, rfl, _, _, _, _, true, rfl, .ty "str", .base (.str _), kit_ty (by decide +kernel), true, rfl, iteT ?_⟩
      refine ⟨_, rfl, _, _, _, _, true, rfl, .ty "str", .base (.str _), kit_ty (by decide +kernel), true, rfl, iteT ⟨_, rfl, _, rfl, rfl, ?_⟩⟩
      rw [decide_eq_true rfl]
      exact q
    · obtain ⟨as, ha1, ha2⟩ := ha.ex
      obtain ⟨bs, hb1, hb2⟩ := hb.ex
      have la := ha2.len
      have lb := hb2.len
      refine ⟨_, rfl, _, _, _, _, true, rfl, .ty "tuple", ty_sqt hb1, kit_ty (by decide +kernel), true, rfl, iteT ?_⟩
      refine ⟨_, rfl, _, _, _, _, true, rfl, .ty "tuple", ty_sqt ha1, kit_ty (by decide +kernel), true, rfl, iteF ⟨_, rfl, a, _, rfl, .inr ha1, _, rfl, b, _, rfl, .inr hb1, rfl, _, rfl, ?_⟩⟩
      rw [List.length_map, List.length_map, la, lb, decide_eq_true rfl]
      refine iteF ⟨_, rfl, b, _, rfl, .inr hb1, _, rfl, by omega, by rw [List.length_map]; omega, for_range (lo := 0) (n := (((bs.map V.ref).length : Nat) : Int).toNat) (fun i σ H' => ∃ y, σ = [some (.ref a), some (.ref b), y] ∧ H' = H) ⟨none, rfl, rfl⟩ ?_ ?_⟩
      · rintro i σ H' hi ⟨y, rfl, rfl⟩
        have hi : i < rows.length := by
          have : i < (bs.map V.ref).length := hi
          rw [List.length_map, lb] at this
          exact this
        have hk : rows[i]? = some rows[i] := List.getElem?_eq_getElem hi
        have lki := lk _ (List.mem_of_getElem? hk)
        obtain ⟨a1, ea, xa⟩ := ha2.getx hk
        obtain ⟨b1, eb, xb⟩ := hb2.getx hk
        refine ⟨_, rfl, _, rfl, a, _, _, _, rfl, rfl, ha1, by rw [Int.zero_add]; exact atI_nat (get_map ea), _, rfl, _, rfl, b, _, _, _, rfl, rfl, hb1, by rw [Int.zero_add]; exact atI_nat (get_map eb), a1, b1, rows[i], rfl, xa, xb, lki, true, rfl, iteF ⟨_, rfl, rfl⟩⟩
      · rintro σ H' ⟨y, rfl, rfl⟩
        exact q
theorem ok_sameA {f : Addr} {fd : FuncData} (F : Fun K "_law_same" "_law_same" s_law_same f fd) (T : Bi mg) (g : mg "_law_same" = some (.ref f)) (kp : PySem.W.keepIn K (.ref f) = true) (b : Binds K fd ["_law_found", "_law_due"] []) : FnOk P w K mg base CX0 4 f fd ["_law_found", "_law_due"] (spSW K) :=
  ok_sameW F T ⟨f, fd, ok_sameR F T ⟨f, fd, ok_sameL F T g kp b, g, kp, b⟩, g, kp, b⟩
end

section
variable {P : Program} {w : World} {K : PySem.W.Frag} {mg : Str → Option Value} {base : Heap}
theorem rows_int {H : Hp} : ∀ {as : List Addr} {rows : List (List Int)}, Each (fun a ns => SqT K H a (ns.map V.int)) as rows → Each (fun a k => SqT K H a (k.map kV)) as (rows.map fun ns => ns.map Sum.inl)
  | _, _, .nil => .nil
  | _, _, .cons h t => .cons (by
      rw [List.map_map]
      exact h) (rows_int t)
theorem rows_str {H : Hp} : ∀ {as : List Addr} {rows : List (List Str)}, Each (fun a ns => SqT K H a (ns.map V.str)) as rows → Each (fun a k => SqT K H a (k.map kV)) as (rows.map fun ns => ns.map Sum.inr)
  | _, _, .nil => .nil
  | _, _, .cons h t => .cons (by
      rw [List.map_map]
      exact h) (rows_str t)
def spSM (K : PySem.W.Frag) : Sp := fun vs H Q _ => (vs = [.non, .non] ∨ ∃ (a b : Addr) (steps : List (List Int)) (marks : List (List Str)), vs = [.ref a, .ref b] ∧ MachAt K H a steps marks ∧ MachAt K H b steps marks ∧ GoodMach steps marks) ∧ Q (.bl true) H
theorem ok_sameM {f : Addr} {fd : FuncData} (F : Fun K "_law_same" "_law_same" s_law_same f fd) (T : Bi mg) (c_law_same : Cal P w K mg base 4 "_law_same" ["_law_found", "_law_due"] (spSW K)) : FnOk P w K mg base CX0 5 f fd ["_law_found", "_law_due"] (spSM K) := by
  refine F.ok sc_law_same (fun vs H Q E h => ?_) (fun cdv A outer s H vs Q E hr h => ?_)
  · obtain ⟨h, _⟩ := h
    rcases h with rfl | ⟨a, b, _, _, rfl, _⟩ <;> rfl
  · obtain ⟨h, q⟩ := h
    refine ⟨_, (pss_cons (ps_if (pt_val (pe_callB call_isi (by rfl) T.isinstance (by decide +kernel) (pa_cons (pv 1) (pa_cons (pe_bltn (v := .ty "tuple") (u := .type "tuple") (by rfl) T.tuple (by decide +kernel) rfl) pa_nil))))
        (pss_cons (ps_if (PW.pt (pw_or (pt_not (pt_val (pe_callB call_isi (by rfl) T.isinstance (by decide +kernel) (pa_cons (pv 0) (pa_cons (pe_bltn (v := .ty "tuple") (u := .type "tuple") (by rfl) T.tuple (by decide +kernel) rfl) pa_nil))))) (pw_or1 (pt_cmpR op_ne (pe_callB call_len_seq (by rfl) T.len PySem.boot_len (pa_cons (pv 0) pa_nil)) (pe_callB call_len_seq (by rfl) T.len PySem.boot_len (pa_cons (pv 1) pa_nil)) (nomark _)))))
          (pss_one (ps_ret pe_bl))
          pss_nil)
        (pss_cons (ps_for PassesOwn.never rfl (pi_range1 (by rfl) T.range (pa_cons (pe_callB call_len_seq (by rfl) T.len PySem.boot_len (pa_cons (pv 1) pa_nil)) pa_nil)) (pg_name (i := 2) sc_law_same.nd rfl (.inl rfl))
          (pss_one (ps_if (pt_not (pt_val (pe_call c_law_same.G hr (by rfl) c_law_same.g c_law_same.kp c_law_same.b .nil pass0 (pa_cons (pe_ix ix_tup (pv 0) (pv 2) (fun _ _ => rfl)) (pa_cons (pe_ix ix_tup (pv 1) (pv 2) (fun _ _ => rfl)) pa_nil)))))
            (pss_one (ps_ret pe_bl))
            pss_nil)))
        (pss_one (ps_ret pe_bl))))
        pss_nil)
      (pss_cons (ps_if (pt_val (pe_callB call_isi (by rfl) T.isinstance (by decide +kernel) (pa_cons (pv 1) (pa_cons (pe_bltn (v := .ty "bool") (u := .type "bool") (by rfl) T.bool (by decide +kernel) rfl) pa_nil))))
        (pss_one (ps_ret (pe_and (pe_callB call_isi (by rfl) T.isinstance (by decide +kernel) (pa_cons (pv 0) (pa_cons (pe_bltn (v := .ty "bool") (u := .type "bool") (by rfl) T.bool (by decide +kernel) rfl) pa_nil))) (pe_one (pe_cmpR op_eq (pv 0) (pv 1) (nomark _))))))
        pss_nil)
      (pss_cons (ps_if (pt_val (pe_callB call_isi (by rfl) T.isinstance (by decide +kernel) (pa_cons (pv 1) (pa_cons (pe_bltn (v := .ty "int") (u := .type "int") (by rfl) T.int (by decide +kernel) rfl) pa_nil))))
        (pss_one (ps_ret (pe_and (pe_callB call_isi (by rfl) T.isinstance (by decide +kernel) (pa_cons (pv 0) (pa_cons (pe_bltn (v := .ty "int") (u := .type "int") (by rfl) T.int (by decide +kernel) rfl) pa_nil))) (pe_and (pe_not (pe_callB call_isi (by rfl) T.isinstance (by decide +kernel) (pa_cons (pv 0) (pa_cons (pe_bltn (v := .ty "bool") (u := .type "bool") (by rfl) T.bool (by decide +kernel) rfl) pa_nil)))) (pe_one (pe_cmpR op_eq (pv 0) (pv 1) (nomark _)))))))
        pss_nil)
      (pss_cons (ps_if (pt_val (pe_callB call_isi (by rfl) T.isinstance (by decide +kernel) (pa_cons (pv 1) (pa_cons (pe_bltn (v := .ty "str") (u := .type "str") (by rfl) T.str (by decide +kernel) rfl) pa_nil))))
        (pss_one (ps_ret (pe_and (pe_callB call_isi (by rfl) T.isinstance (by decide +kernel) (pa_cons (pv 0) (pa_cons (pe_bltn (v := .ty "str") (u := .type "str") (by rfl) T.str (by decide +kernel) rfl) pa_nil))) (pe_one (pe_cmpR op_eq (pv 0) (pv 1) (nomark _))))))
        pss_nil)
      (pss_one (ps_ret (pe_and (pe_cmpR op_isN (pv 1) pe_non (nomark _)) (pe_one (pe_cmpR op_isN (pv 0) pe_non (nomark _)))))))))), ?_⟩
    rcases h with rfl | ⟨a, b, steps, marks, rfl, ha, hb, G⟩
    · refine ⟨_, rfl, _, _, _, _, false, rfl, .ty "tuple", .base .non, kit_ty (by decide +kernel), false, rfl, iteF ?_⟩
      refine ⟨_, rfl, _, _, _, _, false, rfl, .ty "bool", .base .non, kit_ty (by decide +kernel), false, rfl, iteF ?_⟩
      refine ⟨_, rfl, _, _, _, _, false, rfl, .ty "int", .base .non, kit_ty (by decide +kernel), false, rfl, iteF ?_⟩
      refine ⟨_, rfl, _, _, _, _, false, rfl, .ty "str", .base .non, kit_ty (by decide +kernel), false, rfl, iteF ?_⟩
      refine ⟨_, rfl, rfl, _, rfl, iteT ⟨_, rfl, rfl, ?_⟩⟩
      exact q
    · obtain ⟨s1, k1, sa, ka, x1, x2, x3, x4, x5⟩ := ha.ex
      obtain ⟨s2, k2, sb, kb, y1, y2, y3, y4, y5⟩ := hb.ex
      have hi := G.hi
      have gl := G.len
      refine ⟨_, rfl, _, _, _, _, true, rfl, .ty "tuple", ty_sqt y1, kit_ty (by decide +kernel), true, rfl, iteT ?_⟩
      refine ⟨_, rfl, _, _, _, _, true, rfl, .ty "tuple", ty_sqt x1, kit_ty (by decide +kernel), true, rfl, iteF ⟨_, rfl, a, _, rfl, .inr x1, _, rfl, b, _, rfl, .inr y1, rfl, _, rfl, ?_⟩⟩
      rw [show decide (V.int (([V.ref s1, V.ref k1].length : Nat) : Int) = V.int (([V.ref s2, V.ref k2].length : Nat) : Int)) = true from decide_eq_true rfl]
      refine iteF ⟨_, rfl, b, _, rfl, .inr y1, _, rfl, by show -2 ^ 62 ≤ (2 : Int); decide, by show (2 : Int) < 2 ^ 62; decide, for_range (lo := 0) (n := 2) (fun i σ H' => ∃ y, σ = [some (.ref a), some (.ref b), y] ∧ H' = H) ⟨none, rfl, rfl⟩ ?_ ?_⟩
      · rintro i σ H' hi2 ⟨y, rfl, rfl⟩
        have hi2 : i = 0 ∨ i = 1 := by omega
        rcases hi2 with rfl | rfl
        · refine ⟨_, rfl, _, rfl, a, _, _, .ref s1, rfl, rfl, x1, at_of (j := 0) rfl rfl, _, rfl, _, rfl, b, _, _, .ref s2, rfl, rfl, y1, at_of (j := 0) rfl rfl, .inr (.inr ⟨s1, s2, steps.map fun ns => ns.map Sum.inl, rfl, ⟨sa, x2, rows_int x4⟩, ⟨sb, y2, rows_int y4⟩, by rw [List.length_map]; omega, fun k hk => ?_⟩), true, rfl, iteF ⟨_, rfl, rfl⟩⟩
          obtain ⟨ns, hn, rfl⟩ := List.mem_map.mp hk
          have := rise_len (G.st ns hn) (by omega)
          rw [List.length_map]
          omega
        · refine ⟨_, rfl, _, rfl, a, _, _, .ref k1, rfl, rfl, x1, at_of (j := 1) rfl rfl, _, rfl, _, rfl, b, _, _, .ref k2, rfl, rfl, y1, at_of (j := 1) rfl rfl, .inr (.inr ⟨k1, k2, marks.map fun ns => ns.map Sum.inr, rfl, ⟨ka, x3, rows_str x5⟩, ⟨kb, y3, rows_str y5⟩, by rw [List.length_map]; omega, fun k hk => ?_⟩), true, rfl, iteF ⟨_, rfl, rfl⟩⟩
          obtain ⟨ns, hn, rfl⟩ := List.mem_map.mp hk
          have := (G.mr ns hn).2
          rw [List.length_map]
          omega
      · rintro σ H' ⟨y, rfl, rfl⟩
        exact q
theorem ok_same5 {f : Addr} {fd : FuncData} (F : Fun K "_law_same" "_law_same" s_law_same f fd) (T : Bi mg) (g : mg "_law_same" = some (.ref f)) (kp : PySem.W.keepIn K (.ref f) = true) (b : Binds K fd ["_law_found", "_law_due"] []) : FnOk P w K mg base CX0 5 f fd ["_law_found", "_law_due"] (spSM K) :=
  ok_sameM F T ⟨f, fd, ok_sameA F T g kp b, g, kp, b⟩
end

theorem line_split {ns : List Int} {zs : List Str} {k : Nat} (hs : RiseI k ns) (hk : k ≤ 41) (hz : ∀ z ∈ zs, GoodName z) : Txt.split (lineT ns zs) spS = lineW ns zs := by
  refine TL.split_join (y := spS) (s := 32) (S := []) (by decide +kernel) (by decide +kernel) ?_ ?_
  · unfold lineW
    simp
  · intro x hx
    rcases List.mem_append.mp hx with hx | hx
    · rcases List.mem_append.mp hx with hx | hx
      · intro h
        have := (hz x hx).al _ h
        rw [letters_eq, List.mem_range'] at this
        omega
      · rw [List.mem_singleton.mp hx]
        decide +kernel
    · obtain ⟨n, hn, rfl⟩ := List.mem_map.mp hx
      have := hs.2 n hn
      obtain ⟨m, rfl⟩ : ∃ m : Nat, n = (m : Int) := ⟨n.toNat, by omega⟩
      exact (sI_free m (by omega)).1
theorem joinL_free {c : Nat} {y : List Nat} (hy : c ∉ y) : ∀ L : List (List Nat), (∀ l ∈ L, c ∉ l) → c ∉ TL.joinL y L
  | [], _ => List.not_mem_nil
  | [x], h => h x (List.mem_singleton.mpr rfl)
  | x :: z :: r, h => by
    show c ∉ x ++ (y ++ TL.joinL y (z :: r))
    intro q
    rcases List.mem_append.mp q with q | q
    · exact h x List.mem_cons_self q
    · rcases List.mem_append.mp q with q | q
      · exact hy q
      · exact joinL_free hy (z :: r) (fun l hl => h l (List.mem_cons_of_mem _ hl)) q
theorem line_free {ns : List Int} {zs : List Str} {k : Nat} (hs : RiseI k ns) (hk : k ≤ 41) (hz : ∀ z ∈ zs, GoodName z) : 10 ∉ (lineT ns zs).cps.toList := by
  have e : (lineT ns zs).cps.toList = TL.joinL spS.cps.toList ((lineW ns zs).map fun x => x.cps.toList) := by
    unfold lineT
    rw [TL.join_eq]
    exact TL.tl_join spS (lineW ns zs)
  rw [e]
  refine joinL_free (by decide +kernel) _ fun l hl => ?_
  obtain ⟨x, hx, rfl⟩ := List.mem_map.mp hl
  rcases List.mem_append.mp hx with hx | hx
  · rcases List.mem_append.mp hx with hx | hx
    · intro h
      have := (hz x hx).al _ h
      rw [letters_eq, List.mem_range'] at this
      omega
    · rw [List.mem_singleton.mp hx]
      decide +kernel
  · obtain ⟨n, hn, rfl⟩ := List.mem_map.mp hx
    have := hs.2 n hn
    obtain ⟨m, rfl⟩ : ∃ m : Nat, n = (m : Int) := ⟨n.toNat, by omega⟩
    exact (sI_free m (by omega)).2
theorem mach_split {steps : List (List Int)} {marks : List (List Str)} (G : GoodMach steps marks) : Txt.split (machT steps marks) nlS = linesT steps marks := by
  have hi := G.hi
  have lo := G.lo
  refine TL.split_join (y := nlS) (s := 10) (S := []) (by decide +kernel) (by decide +kernel) ?_ ?_
  · intro h
    have := lines_len G.len
    rw [h] at this
    simp at this
    omega
  · intro x hx
    unfold linesT at hx
    obtain ⟨⟨ns, zs⟩, hp, rfl⟩ := List.mem_map.mp hx
    obtain ⟨a, b⟩ := List.of_mem_zip hp
    exact line_free (G.st _ a) (by omega) (G.mr _ b).1.2

/-! ### the law -/
abbrev s_law_by_base : Stmt := topS 35
theorem sc_law_by_base : FnScope ["_law_thing", "_law_kinds", "e"] ["_law_thing"] (defScope s_law_by_base) := ⟨rfl, rfl, rfl, by decide +kernel, rfl, by decide +kernel, by decide +kernel⟩
abbrev slaw : Stmt := topS 36
theorem sclaw : FnScope ["_law_script", "_law_pool_here", "_law_spoil", "_law_own", "_law_again", "_law_names_here", "_law_thing", "_law_due", "_law_told"] ["_law_script"] (defScope slaw) := ⟨rfl, rfl, rfl, by decide +kernel, rfl, by decide +kernel, by decide +kernel⟩
section
variable {P : Program} {w : World} {K : PySem.W.Frag} {mg : Str → Option Value} {base : Heap}
theorem dpa_bls {H : Hp} : ∀ l : List Bool, DpAll K H (l.map V.bl) (l.map PyData.bool)
  | [] => .nil
  | x :: r => .cons (.bl x) (dpa_bls r)
/-- things that are no text -/
def Oddy (H : Hp) (v : V) : Prop := v = .non ∨ (∃ b, v = .bl b) ∨ (∃ i, v = .int i) ∨ (∃ a xs, v = .ref a ∧ H a = some (.lst xs)) ∨ (∃ a xs, v = .ref a ∧ H a = some (.tup xs)) ∨ ∃ a kvs, v = .ref a ∧ H a = some (.dK kvs)
theorem Oddy.same {H H' : Hp} {v : V} (o : Oddy H v) (s : Same H H') : Oddy H' v := by
  rcases o with h | h | h | ⟨a, xs, e, h⟩ | ⟨a, xs, e, h⟩ | ⟨a, xs, e, h⟩
  · exact .inl h
  · exact .inr (.inl h)
  · exact .inr (.inr (.inl h))
  · exact .inr (.inr (.inr (.inl ⟨a, xs, e, s _ _ h⟩)))
  · exact .inr (.inr (.inr (.inr (.inl ⟨a, xs, e, s _ _ h⟩))))
  · exact .inr (.inr (.inr (.inr (.inr ⟨a, xs, e, s _ _ h⟩))))
theorem Oddy.ty {H : Hp} {v : V} (o : Oddy H v) : ∃ t, TyX K H v t ∧ PySem.W.kitOne K t (.type "str") = some false := by
  rcases o with rfl | ⟨b, rfl⟩ | ⟨i, rfl⟩ | ⟨a, xs, rfl, h⟩ | ⟨a, xs, rfl, h⟩ | ⟨a, xs, rfl, h⟩
  · exact ⟨_, .base .non, kit_ty (by decide +kernel)⟩
  · exact ⟨_, .base (.bl _), kit_ty (by decide +kernel)⟩
  · exact ⟨_, .base (.int _), kit_ty (by decide +kernel)⟩
  · exact ⟨_, .base (.lst h), kit_ty (by decide +kernel)⟩
  · exact ⟨_, .base (.tup h), kit_ty (by decide +kernel)⟩
  · exact ⟨_, .base (.dK h), kit_ty (by decide +kernel)⟩
def spBB : Sp := fun vs H Q _ => ∃ v, vs = [v] ∧ ((∃ z : Str, v = .str z ∧ z.length ≤ 80000 ∧ readT z = none) ∨ Oddy H v) ∧ ∀ H', Same H H' → Q (.bl true) H'
theorem ok_bb {f : Addr} {fd : FuncData} (F : Fun K "_law_by_base" "_law_by_base" s_law_by_base f fd) (T : Bi mg) (S : XSet K mg "NoText" "NoMachine" "NoSaying") (cread_machine : CalX P w K mg base 5 "read_machine" ["text"] (spRMG K S.R)) : FnOk P w K mg base CX0 6 f fd ["_law_thing"] spBB := by
  have xTreeError := S.xT
  have xNoMachine := S.xA
  have xNoSaying := S.xB
  have rE := S.r
  refine F.ok sc_law_by_base (fun vs H Q E h => ?_) (fun cdv A outer s H vs Q E hr h => ?_)
  · obtain ⟨v, rfl, _⟩ := h
    rfl
  · obtain ⟨v, rfl, hv, q⟩ := h
    refine ⟨_, (pss_cons (ps_set (i := 1) sc_law_by_base.nd rfl (.inl rfl) (pe_lst pa_nil))
      (pss_cons (ps_try_as (i := 2) rfl rfl sc_law_by_base.nd rfl rfl ⟨rfl, by decide, .inl xTreeError.g⟩ takes0 (fun W pn xe tk _ => (pss_one (ps_expr (pe_callS cread_machine.G hr (by rfl) cread_machine.g cread_machine.kp cread_machine.b (fun σ => passAt tk σ) (pa_cons (pv 0) pa_nil))))) (fun a oe cls d pn hz hf => pss_when (p := cls = .ref S.R ∧ d = none) (fun hp => (pss_one (ps_set (i := 1) sc_law_by_base.nd rfl (.inl rfl) (pe_lst (pa_cons (pe_callB (call_isE rE.E (zc_of hz hp) hf) (by rfl) T.isinstance (by decide +kernel) (pa_cons (pv 2) (pa_cons (pe_bltn (v := .ty "ValueError") (u := .type "ValueError") (by rfl) T.ValueError (by decide +kernel) rfl) pa_nil))) (pa_cons (pe_callB (call_isE rE.E (zc_of hz hp) hf) (by rfl) T.isinstance (by decide +kernel) (pa_cons (pv 2) (pa_cons (pe_glob rfl xNoMachine.g xNoMachine.r) pa_nil))) (pa_cons (pe_callB (call_isE rE.E (zc_of hz hp) hf) (by rfl) T.isinstance (by decide +kernel) (pa_cons (pv 2) (pa_cons (pe_glob rfl xNoSaying.g xNoSaying.r) pa_nil))) pa_nil)))))))))
      (pss_one (ps_ret (pe_cmpR (op_eqD hr.units) (pv 1) (pe_lst (pa_cons pe_bl (pa_cons pe_bl (pa_cons pe_bl pa_nil)))) (nomark _)))))), ?_⟩
    refine ⟨by show 0 ≤ sizeLine; decide, fun l hl => ?_⟩
    have s1 := same_upd (o := .lst []) hl
    rcases hv with ⟨z, rfl, lz, hn⟩ | ho
    · refine ⟨_, rfl, _, rfl, .inl ⟨z, rfl, lz, fun s m h => absurd h (by rw [hn]; intro k; cases k), fun _ H2 s2 => ⟨true, xTreeError.exm S.sT, fun _ a ha => ⟨⟨rfl, rfl⟩, ?_⟩, fun q => Bool.noConfusion q⟩⟩⟩
      refine ⟨_, rfl, .ty "ValueError", .type "ValueError", true, rfl, fun u h => h, rE.kit, ?_⟩
      refine ⟨_, rfl, _, _, false, rfl, fun u h => h, xNoMachine.kit rE S.sA, ?_⟩
      refine ⟨_, rfl, _, _, false, rfl, fun u h => h, xNoSaying.kit rE S.sB, by show 3 ≤ sizeLine; decide, fun l2 h2 => ?_⟩
      have s3 := same_upd (o := .lst ([true, false, false].map V.bl)) h2
      refine ⟨_, rfl, by show 3 ≤ sizeLine; decide, fun l3 h3 => ?_⟩
      have s4 := same_upd (o := .lst ([true, false, false].map V.bl)) h3
      refine ⟨_, _, .lst (SqL.of (s4 _ _ upd_same)) (dpa_bls [true, false, false]), .lst (SqL.of upd_same) (dpa_bls [true, false, false]), by decide +kernel, by decide +kernel, ?_⟩
      rw [show PyData.eqv (.list ([true, false, false].map PyData.bool)) (.list ([true, false, false].map PyData.bool)) = true by decide +kernel]
      exact q _ (((s1.trans s2).trans s3).trans s4)
    · obtain ⟨t, ty, kt⟩ := (ho.same s1).ty (K := K)
      refine ⟨_, rfl, v, rfl, .inr ⟨t, ty, kt, fun H2 s2 => ⟨true, xTreeError.exm S.sT, fun _ a ha => ⟨⟨rfl, rfl⟩, ?_⟩, fun q => Bool.noConfusion q⟩⟩⟩
      refine ⟨_, rfl, .ty "ValueError", .type "ValueError", true, rfl, fun u h => h, rE.kit, ?_⟩
      refine ⟨_, rfl, _, _, false, rfl, fun u h => h, xNoMachine.kit rE S.sA, ?_⟩
      refine ⟨_, rfl, _, _, false, rfl, fun u h => h, xNoSaying.kit rE S.sB, by show 3 ≤ sizeLine; decide, fun l2 h2 => ?_⟩
      have s3 := same_upd (o := .lst ([true, false, false].map V.bl)) h2
      refine ⟨_, rfl, by show 3 ≤ sizeLine; decide, fun l3 h3 => ?_⟩
      have s4 := same_upd (o := .lst ([true, false, false].map V.bl)) h3
      refine ⟨_, _, .lst (SqL.of (s4 _ _ upd_same)) (dpa_bls [true, false, false]), .lst (SqL.of upd_same) (dpa_bls [true, false, false]), by decide +kernel, by decide +kernel, ?_⟩
      rw [show PyData.eqv (.list ([true, false, false].map PyData.bool)) (.list ([true, false, false].map PyData.bool)) = true by decide +kernel]
      exact q _ (((s1.trans s2).trans s3).trans s4)
/-- what is due -/
def DueAt (K : PySem.W.Frag) (H : Hp) (d : V) (o : MR) : Prop := match o with
  | none => d = .non
  | some p => ∃ c, d = .ref c ∧ MachAt K H c p.1 p.2 ∧ GoodMach p.1 p.2
theorem read_good {z : Str} {s : List (List Int)} {m : List (List Str)} (h : readT z = some (s, m)) : GoodMach s m := by
  unfold readT at h
  rw [← read_eq (pl := plc (Txt.split z nlS).length) (split_pos z nlS) fun _ _ => rfl] at h
  exact readR_good h
theorem ab_text : readT (Str.ofString "a b > 0 1\n>") = some ([[0, 1], []], [[Str.ofString "a", Str.ofString "b"], []]) := by decide +kernel
theorem mach_len5 {steps : List (List Int)} {marks : List (List Str)} (G : GoodMach steps marks) (h : steps.length ≤ 5) : (machT steps marks).length ≤ 2600 := by
  have a := join_len nlS (by decide) (linesT steps marks)
  have b := sumB 500 _ (lines_short G)
  rw [lines_len G.len] at a b
  show (Txt.join nlS (linesT steps marks)).length ≤ 2600
  omega
theorem isn_ref (a : Addr) : decide (V.ref a = V.non) = false := decide_eq_false (by intro h; cases h)
theorem isn_non : decide (V.non = V.non) = true := decide_eq_true rfl
def line39 : Str := Str.ofString "> 0 39"
theorem wt_rep : ∀ n : Nat, wt (List.replicate n line39) = 7 * n
  | 0 => rfl
  | n + 1 => by
    have ih := wt_rep n
    rw [List.replicate_succ, show line39 :: List.replicate n line39 = [line39] ++ List.replicate n line39 from rfl, wt_app, ih, show wt [line39] = 7 by decide +kernel]
    omega
def spLaw (K : PySem.W.Frag) : Sp := fun vs H Q _ => ∃ (l : Addr) (ns : List Int), vs = [.ref l] ∧ SqL K H l (ns.map V.int) ∧ ns.length ≤ 63 ∧ ∀ H', Q (.bl true) H'
theorem ok_law {f : Addr} {fd : FuncData} (F : Fun K "law" "law" slaw f fd) (T : Bi mg) (S : XSet K mg "NoText" "NoMachine" "NoSaying") (c_law_pool : Cal P w K mg base 1 "_law_pool" ["_law_script"] (spPool K)) (c_law_draw : Cal P w K mg base 1 "_law_draw" ["_law_pool_here", "_law_many"] spDraw)
    (c_law_names : Cal P w K mg base 3 "_law_names" ["_law_pool_here", "_law_many"] spLNames) (c_law_machine : Cal P w K mg base 2 "_law_machine" ["_law_pool_here", "_law_names_here", "_law_most"] (spLMach K)) (c_law_machine_text : Cal P w K mg base 2 "_law_machine_text" ["_law_machine_here"] (spMT K))
    (c_law_odd_line : Cal P w K mg base 2 "_law_odd_line" ["_law_pool_here", "_law_text"] spOdd) (c_law_bent_text : Cal P w K mg base 3 "_law_bent_text" ["_law_pool_here", "_law_text"] spBT) (c_law_read_machine : Cal P w K mg base 2 "_law_read_machine" ["_law_text"] (spLRM K))
    (cread_machine : CalX P w K mg base 5 "read_machine" ["text"] (spRMG K S.R)) (c_law_same : Cal P w K mg base 5 "_law_same" ["_law_found", "_law_due"] (spSM K)) (c_law_by_base : Cal P w K mg base 6 "_law_by_base" ["_law_thing"] spBB) :
    FnOk P w K mg base CX0 7 f fd ["_law_script"] (spLaw K) := by
  have xNoText := S.xR
  refine F.ok sclaw (fun vs H Q E h => ?_) (fun cdv A outer s H vs Q E hr h => ?_)
  · obtain ⟨l, ns, rfl, _⟩ := h
    rfl
  · obtain ⟨l, ns, rfl, hS, hlen, q⟩ := h
    refine ⟨_, (pss_cons (ps_set (i := 1) sclaw.nd rfl (.inl rfl) (pe_call c_law_pool.G (hr.mono (by decide)) (by rfl) c_law_pool.g c_law_pool.kp c_law_pool.b .nil pass0 (pa_cons (pv 0) pa_nil)))
      (pss_cons (ps_set (i := 2) sclaw.nd rfl (.inl rfl) (pe_call c_law_draw.G (hr.mono (by decide)) (by rfl) c_law_draw.g c_law_draw.kp c_law_draw.b .nil pass0 (pa_cons (pv 1) (pa_cons pe_int pa_nil))))
      (pss_cons (ps_set (i := 3) sclaw.nd rfl (.inl rfl) (pe_call c_law_draw.G (hr.mono (by decide)) (by rfl) c_law_draw.g c_law_draw.kp c_law_draw.b .nil pass0 (pa_cons (pv 1) (pa_cons pe_int pa_nil))))
      (pss_cons (ps_set (i := 4) sclaw.nd rfl (.inl rfl) (pe_cmpR op_eq (pe_call c_law_draw.G (hr.mono (by decide)) (by rfl) c_law_draw.g c_law_draw.kp c_law_draw.b .nil pass0 (pa_cons (pv 1) (pa_cons pe_int pa_nil))) pe_int (nomark _)))
      (pss_cons (ps_set (i := 5) sclaw.nd rfl (.inl rfl) (pe_call c_law_names.G (hr.mono (by decide)) (by rfl) c_law_names.g c_law_names.kp c_law_names.b .nil pass0 (pa_cons (pv 1) (pa_cons pe_int pa_nil))))
      (pss_cons (ps_set (i := 6) sclaw.nd rfl (.inl rfl) (pe_call c_law_machine_text.G (hr.mono (by decide)) (by rfl) c_law_machine_text.g c_law_machine_text.kp c_law_machine_text.b .nil pass0 (pa_cons (pe_call c_law_machine.G (hr.mono (by decide)) (by rfl) c_law_machine.g c_law_machine.kp c_law_machine.b .nil pass0 (pa_cons (pv 1) (pa_cons (pv 5) (pa_cons pe_int pa_nil)))) pa_nil)))
      (Evl.pss_cut (ps_if (pt_cmpR op_eq (pv 3) pe_int (nomark _))
        (pss_one (ps_set (i := 6) sclaw.nd rfl (.inl rfl) (pe_join pe_str (pe_op op_rep (pe_lst (pa_cons pe_str pa_nil)) (pe_op op_add pe_int (pe_call c_law_draw.G (hr.mono (by decide)) (by rfl) c_law_draw.g c_law_draw.kp c_law_draw.b .nil pass0 (pa_cons (pv 1) (pa_cons pe_int pa_nil))))))))
        pss_nil)
      (Evl.pss_cut (ps_if (pt_cmpR op_eq (pv 3) pe_int (nomark _))
        (pss_one (ps_set (i := 6) sclaw.nd rfl (.inl rfl) (pe_call c_law_odd_line.G (hr.mono (by decide)) (by rfl) c_law_odd_line.g c_law_odd_line.kp c_law_odd_line.b .nil pass0 (pa_cons (pv 1) (pa_cons (pv 6) pa_nil)))))
        pss_nil)
      (Evl.pss_cut (ps_if (pt_cmpR op_gt (pv 2) pe_int (nomark _))
        (pss_cons (ps_set (i := 6) sclaw.nd rfl (.inl rfl) (pe_call c_law_bent_text.G (hr.mono (by decide)) (by rfl) c_law_bent_text.g c_law_bent_text.kp c_law_bent_text.b .nil pass0 (pa_cons (pv 1) (pa_cons (pv 6) pa_nil))))
        (pss_one (ps_if (pt_val (pv 4))
          (pss_one (ps_set (i := 6) sclaw.nd rfl (.inl rfl) (pe_call c_law_bent_text.G (hr.mono (by decide)) (by rfl) c_law_bent_text.g c_law_bent_text.kp c_law_bent_text.b .nil pass0 (pa_cons (pv 1) (pa_cons (pv 6) pa_nil)))))
          pss_nil)))
        pss_nil)
      (Evl.pss_cut (ps_if (pt_cmpR op_eq (pv 2) pe_int (nomark _))
        (pss_one (ps_set (i := 6) sclaw.nd rfl (.inl rfl) (pe_ix ix_list (pe_lst (pa_cons pe_non (pa_cons pe_bl (pa_cons pe_int (pa_cons (pe_lst pa_nil) (pa_cons (pe_tup (pa_cons (pe_tup pa_nil) (pa_cons (pe_tup pa_nil) pa_nil))) (pa_cons (pe_lst (pa_cons pe_str pa_nil)) (pa_cons (pe_disp (pps_cons pe_str pe_int pps_nil) (by rfl) (by rfl) (fun z => by cases z) (by decide)) (pa_cons (pe_tup pa_nil) (pa_cons (pe_un un_neg pe_int) pa_nil)))))))))) (pe_call c_law_draw.G (hr.mono (by decide)) (by rfl) c_law_draw.g c_law_draw.kp c_law_draw.b .nil pass0 (pa_cons (pv 1) (pa_cons pe_int pa_nil))) (fun _ _ => rfl))))
        pss_nil)
      (pss_cons (ps_set (i := 7) sclaw.nd rfl (.inl rfl) pe_non)
      (Evl.pss_cut (ps_if (pt_val (pe_callB call_isi (by rfl) T.isinstance (by decide +kernel) (pa_cons (pv 6) (pa_cons (pe_bltn (v := .ty "str") (u := .type "str") (by rfl) T.str (by decide +kernel) rfl) pa_nil))))
        (pss_one (ps_set (i := 7) sclaw.nd rfl (.inl rfl) (pe_call c_law_read_machine.G (hr.mono (by decide)) (by rfl) c_law_read_machine.g c_law_read_machine.kp c_law_read_machine.b .nil pass0 (pa_cons (pv 6) pa_nil))))
        pss_nil)
      (pss_cons (ps_set (i := 8) sclaw.nd rfl (.inl rfl) pe_non)
      (Evl.pss_cut (ps_try_only rfl rfl ⟨rfl, by decide, .inl xNoText.g⟩ takes0 (fun W pn xe tk _ => (pss_one (ps_set (i := 8) sclaw.nd rfl (.inl rfl) (pe_callS cread_machine.G (hr.mono (by decide)) (by rfl) cread_machine.g cread_machine.kp cread_machine.b (fun σ => passAt tk σ) (pa_cons (pv 6) pa_nil))))) (fun a oe cls d pn hz hf => (pss_one (ps_set (i := 8) sclaw.nd rfl (.inl rfl) pe_non))))
      (Evl.pss_cut (ps_if (PW.pt (pw_or (pt_not (pt_val (pe_call c_law_same.G (hr.mono (by decide)) (by rfl) c_law_same.g c_law_same.kp c_law_same.b .nil pass0 (pa_cons (pv 8) (pa_cons (pv 7) pa_nil))))) (pw_or1 (PW.pt (pw_and (pt_cmpR op_isN (pv 7) pe_non (nomark _)) (pw_and1 (pt_not (pt_val (pe_call c_law_by_base.G hr (by rfl) c_law_by_base.g c_law_by_base.kp c_law_by_base.b .nil pass0 (pa_cons (pv 6) pa_nil))))))))))
        (pss_one (ps_ret pe_bl))
        pss_nil)
      (pss_one (ps_ret (pe_call c_law_same.G (hr.mono (by decide)) (by rfl) c_law_same.g c_law_same.kp c_law_same.b .nil pass0 (pa_cons (pe_callS cread_machine.G (hr.mono (by decide)) (by rfl) cread_machine.g cread_machine.kp cread_machine.b (fun σ => passAt takes0 σ) (pa_cons pe_str pa_nil)) (pa_cons (pe_tup (pa_cons (pe_tup (pa_cons (pe_tup (pa_cons pe_int (pa_cons pe_int pa_nil))) (pa_cons (pe_tup pa_nil) pa_nil))) (pa_cons (pe_tup (pa_cons (pe_tup (pa_cons pe_str (pa_cons pe_str pa_nil))) (pa_cons (pe_tup pa_nil) pa_nil))) pa_nil))) pa_nil)))))))))))))))))))), ?_⟩
    refine ⟨_, rfl, l, ns, rfl, hS, hlen, fun H1 PL s1 P1 => ?_⟩
    refine ⟨_, rfl, PL, 0, 9, rfl, P1, by decide, by decide, by decide, fun H2 sp _ _ P2 _ => ?_⟩
    refine ⟨_, rfl, PL, _, 6, rfl, P2, by decide, by decide, by decide, fun H3 own _ _ P3 _ => ?_⟩
    refine ⟨_, rfl, PL, _, 3, rfl, P3, by decide, by decide, by decide, fun H4 x _ _ P4 _ => ⟨rfl, ?_⟩⟩
    generalize decide (V.int x = V.int 0) = again
    refine ⟨_, rfl, PL, _, 3, rfl, P4, by decide, by decide, fun H5 ln zs P5 _ hl5 ol5 nz gz lz => ?_⟩
    have lz : zs.length = 3 := lz
    refine ⟨_, rfl, _, rfl, PL, _, ln, zs, 5, rfl, P5, by omega, hl5, ol5, nz, gz, by omega, by decide, by decide, fun H6 m steps marks P6 k6 M6 G6 l6 => ⟨m, steps, marks, rfl, M6, G6, fun H7 s7 => ?_⟩⟩
    have P7 : Pool H7 PL 1000 := (P6.same s7).mono (by omega)
    have lm := mach_len5 G6 l6
    have sm : (Txt.split (machT steps marks) nlS).length ≤ 40 := by
      rw [mach_split G6, lines_len G6.len]
      omega
    generalize machT steps marks = z at lm sm
    -- many like lines
    refine ⟨fun σ H' => ∃ z : Str, σ = [some (.ref l), some (.ref PL.p), some (.int sp), some (.int own), some (.bl again), some (.ref ln), some (.str z), none, none] ∧ z.length ≤ 2600 ∧ (own = 0 ∨ (Txt.split z nlS).length ≤ 40) ∧ Pool H' PL 1001, ?_, ?_⟩
    · refine ⟨_, rfl, rfl, _, rfl, ite2 (fun e => ?_) (fun _ => ⟨z, rfl, lm, .inr sm, P7.mono (by omega)⟩)⟩
      have e0 : own = 0 := V.int.inj (of_decide_eq_true e)
      refine ⟨⟨_, rfl⟩, by show 1 ≤ sizeLine; decide, fun p1 hp1 => ?_⟩
      have s8 := same_upd (o := .lst [.str line39]) hp1
      have o8 := P7.off hp1
      refine ⟨_, rfl, PL, _, 3, rfl, P7.same s8, by decide, by decide, by decide, fun H8 r r0 r1 P8 k8 => ?_⟩
      obtain ⟨n, rfl⟩ : ∃ j : Nat, r = (j : Int) := ⟨r.toNat, by omega⟩
      have h8 := k8 _ _ (show (L2.upd H7 p1 (.lst [.str line39])) p1 = _ from upd_same) o8
      have en : ((39 : Int) + (n : Int)).toNat = 39 + n := by omega
      refine ⟨_, _, rfl, rfl, p1, _, _, rfl, rfl, h8, by omega, by omega, by rw [en]; show 1 * (39 + n) ≤ _; exact szOk (by omega), fun p2 hp2 => ?_⟩
      have er : (List.replicate ((39 : Int) + (n : Int)).toNat [V.str line39]).flatten = (List.replicate (39 + n) line39).map V.str := by
        rw [en, List.flatten_replicate_singleton, List.map_replicate]
      rw [er]
      have s9 := same_upd (o := .lst ((List.replicate (39 + n) line39).map V.str)) hp2
      have wr := wt_rep (39 + n)
      have e1 : (Str.ofString "\n").length = 1 := by decide
      refine ⟨_, p2, List.replicate (39 + n) line39, rfl, rfl, .inl (SqL.of upd_same), ?_, _, rfl, ?_, .inl e0, (P8.same s9).mono (by omega)⟩
      · rw [e1, Nat.mul_one]
        show wt (List.replicate (39 + n) line39) ≤ 16777216
        omega
      · have := jn_wtY (y := Str.ofString "\n") e1 (List.replicate (39 + n) line39)
        omega
    rintro σ H8 ⟨z, rfl, lm, sm, P8⟩
    -- an odd line
    refine ⟨fun σ H' => ∃ z : Str, σ = [some (.ref l), some (.ref PL.p), some (.int sp), some (.int own), some (.bl again), some (.ref ln), some (.str z), none, none] ∧ z.length ≤ 5260 ∧ Pool H' PL 1005, ?_, ?_⟩
    · refine ⟨_, rfl, rfl, _, rfl, ite2 (fun e => ?_) (fun _ => ⟨z, rfl, by omega, P8.mono (by omega)⟩)⟩
      have e1 : own = 1 := V.int.inj (of_decide_eq_true e)
      have sm : (Txt.split z nlS).length ≤ 40 := by
        rcases sm with h | h
        · omega
        · exact h
      exact ⟨_, rfl, _, rfl, PL, _, z, rfl, P8, by decide, by omega, sm, fun H9 y P9 _ ly => ⟨y, rfl, by omega, P9⟩⟩
    rintro σ H9 ⟨z, rfl, lm, P9⟩
    -- bent
    refine ⟨fun σ H' => ∃ z : Str, σ = [some (.ref l), some (.ref PL.p), some (.int sp), some (.int own), some (.bl again), some (.ref ln), some (.str z), none, none] ∧ z.length ≤ 60000 ∧ Pool H' PL 1013, ?_, ?_⟩
    · refine ⟨_, rfl, _, _, rfl, rfl, _, rfl, ite2 (fun _ => ?_) (fun _ => ⟨z, rfl, by omega, P9.mono (by omega)⟩)⟩
      refine ⟨_, rfl, _, rfl, PL, _, z, rfl, P9, by decide, by omega, fun H10 y P10 _ ly => ?_⟩
      refine ⟨_, rfl, again, rfl, ?_⟩
      cases again with
      | true => exact iteT ⟨_, rfl, _, rfl, PL, _, y, rfl, P10, by decide, by omega, fun H11 y2 P11 _ ly2 => ⟨y2, rfl, by omega, P11.mono (by omega)⟩⟩
      | false => exact iteF ⟨y, rfl, by omega, P10.mono (by omega)⟩
    rintro σ H9 ⟨z, rfl, lz4, P9⟩
    -- no text
    refine ⟨fun σ H' => ∃ v : V, σ = [some (.ref l), some (.ref PL.p), some (.int sp), some (.int own), some (.bl again), some (.ref ln), some v, none, none] ∧ ((∃ z : Str, v = .str z ∧ z.length ≤ 60000) ∨ Oddy H' v), ?_, ?_⟩
    · refine ⟨_, rfl, rfl, _, rfl, ite2 (fun _ => ?_) (fun _ => ⟨_, rfl, .inl ⟨z, rfl, lz4⟩⟩)⟩
      refine ⟨by show 0 ≤ sizeLine; decide, fun e1 g1 => ⟨by show 0 ≤ sizeLine; decide, fun b1 c1 => ⟨by show 0 ≤ sizeLine; decide, fun b2 c2 => ⟨by show 2 ≤ sizeLine; decide, fun e2 g2 => ⟨by show 1 ≤ sizeLine; decide, fun e3 g3 => fun e4 g4 => ⟨upd_same, [(Sum.inr ">", .int 1)], rfl, by show 1 ≤ 15; decide, by show 0 ≤ sizeLine; decide, fun e5 g5 => ⟨_, rfl, by show 9 ≤ sizeLine; decide, fun L hL => ?_⟩⟩⟩⟩⟩⟩⟩
      have m1 := same_upd (o := .lst []) g1
      have ma := same_upd (o := .tup []) c1
      have mb := same_upd (o := .tup []) c2
      have m2 := same_upd (o := .tup [.ref b1, .ref b2]) g2
      have m3 := same_upd (o := .lst [.str ">"]) g3
      have m4 := smut (o := .dK [(Sum.inr ">", .int 1)]) (same_upd (o := .dK []) g4) g4
      have m5 := same_upd (o := .tup []) g5
      have mL := same_upd (o := .lst [.non, .bl false, .int 0, .ref e1, .ref e2, .ref e3, .ref e4, .ref e5, .int (-1)]) hL
      have t5 := m5.trans mL
      have t4 := m4.trans t5
      have t3 := m3.trans t4
      have t2 := m2.trans t3
      have tb := mb.trans t2
      have ta := ma.trans tb
      have t1 := m1.trans ta
      have f1 := ta _ _ upd_same
      have f2 := t3 _ _ upd_same
      have f3 := t4 _ _ upd_same
      have f4 := t5 _ _ upd_same
      have f5 := mL _ _ upd_same
      have fL : ∀ Hm : Hp, L2.upd Hm L (.lst [.non, .bl false, .int 0, .ref e1, .ref e2, .ref e3, .ref e4, .ref e5, .int (-1)]) L = some (.lst [.non, .bl false, .int 0, .ref e1, .ref e2, .ref e3, .ref e4, .ref e5, .int (-1)]) := fun _ => upd_same
      have Q1 := P9.same m1
      have Q2 := (Q1.same ma).same mb
      have Q3 := Q2.same m2
      have Q4 := Q3.same m3
      have Q5 := Q4.same m4
      have Q6 := Q5.same m5
      have o1 := P9.off g1
      have o2 := Q2.off g2
      have o3 := Q3.off g3
      have o4 := Q4.off g4
      have o5 := Q5.off g5
      have oL := Q6.off hL
      refine ⟨_, rfl, PL, _, 9, rfl, P9.same t1, by decide, by decide, by decide, fun H10 r r0 r1 P10 K10 => ?_⟩
      have all : ∀ v ∈ ([.non, .bl false, .int 0, .ref e1, .ref e2, .ref e3, .ref e4, .ref e5, .int (-1)] : List V), Oddy H10 v := by
        simp only [List.mem_cons, List.not_mem_nil, or_false]
        rintro v (rfl | rfl | rfl | rfl | rfl | rfl | rfl | rfl | rfl)
        · exact .inl rfl
        · exact .inr (.inl ⟨_, rfl⟩)
        · exact .inr (.inr (.inl ⟨_, rfl⟩))
        · exact .inr (.inr (.inr (.inl ⟨_, _, rfl, K10 _ _ f1 o1⟩)))
        · exact .inr (.inr (.inr (.inr (.inl ⟨_, _, rfl, K10 _ _ f2 o2⟩))))
        · exact .inr (.inr (.inr (.inl ⟨_, _, rfl, K10 _ _ f3 o3⟩)))
        · exact .inr (.inr (.inr (.inr (.inr ⟨_, _, rfl, K10 _ _ f4 o4⟩))))
        · exact .inr (.inr (.inr (.inr (.inl ⟨_, _, rfl, K10 _ _ f5 o5⟩))))
        · exact .inr (.inr (.inl ⟨_, rfl⟩))
      have hL10 := K10 _ _ (fL _) oL
      have len9 : ([.non, .bl false, .int 0, .ref e1, .ref e2, .ref e3, .ref e4, .ref e5, .int (-1)] : List V).length = 9 := rfl
      generalize ([.non, .bl false, .int 0, .ref e1, .ref e2, .ref e3, .ref e4, .ref e5, .int (-1)] : List V) = L9 at hL10 all len9
      obtain ⟨j, rfl⟩ : ∃ j : Nat, r = (j : Int) := ⟨r.toNat, by omega⟩
      have hj : L9[j]? = some (L9[j]'(by omega)) := List.getElem?_eq_getElem _
      exact ⟨L, _, _, _, rfl, rfl, SqL.of hL10, atI_nat hj, _, rfl, .inr (all _ (List.mem_of_getElem? hj))⟩
    rintro σ H10 ⟨v, rfl, hv⟩
    -- what is due
    refine ⟨fun σ H' => ∃ d : V, σ = [some (.ref l), some (.ref PL.p), some (.int sp), some (.int own), some (.bl again), some (.ref ln), some v, some d, none] ∧ ((∃ z : Str, v = .str z ∧ z.length ≤ 60000 ∧ DueAt K H' d (readT z)) ∨ (Oddy H' v ∧ d = .non)), ?_, ?_⟩
    · rcases hv with ⟨z, rfl, lz5⟩ | ho
      · refine ⟨_, rfl, _, _, _, _, true, rfl, .ty "str", .base (.str _), kit_ty (by decide +kernel), true, rfl, iteT ?_⟩
        refine ⟨_, rfl, z, rfl, by omega, fun e H11 s11 => ?_, fun s m e H11 c s11 M => ?_⟩
        · exact ⟨_, rfl, .inl ⟨z, rfl, lz5, by rw [e]; exact rfl⟩⟩
        · exact ⟨_, rfl, .inl ⟨z, rfl, lz5, by rw [e]; exact ⟨c, rfl, M, read_good e⟩⟩⟩
      · obtain ⟨t, ty, kt⟩ := ho.ty (K := K)
        exact ⟨_, rfl, _, _, _, _, false, rfl, .ty "str", ty, kt, false, rfl, iteF ⟨_, rfl, .inr ⟨ho, rfl⟩⟩⟩
    rintro σ H11 ⟨d, rfl, hd⟩
    -- what is told
    refine ⟨fun σ H' => ∃ t : V, σ = [some (.ref l), some (.ref PL.p), some (.int sp), some (.int own), some (.bl again), some (.ref ln), some v, some d, some t] ∧ ((t = .non ∧ d = .non ∧ ((∃ z : Str, v = .str z ∧ z.length ≤ 80000 ∧ readT z = none) ∨ Oddy H' v)) ∨ ∃ c c' s m, t = .ref c ∧ d = .ref c' ∧ MachAt K H' c s m ∧ MachAt K H' c' s m ∧ GoodMach s m), ?_, ?_⟩
    · rcases hd with ⟨z, rfl, lz6, hd⟩ | ⟨ho, rfl⟩
      · refine ⟨_, rfl, _, rfl, .inl ⟨z, rfl, by omega, fun s m e G H12 c s12 R => ?_, fun e H12 s12 => ⟨true, xNoText.exm S.r.s, fun _ a ha => ?_, fun q => Bool.noConfusion q⟩⟩⟩
        · rw [e] at hd
          obtain ⟨c', rfl, R', _⟩ := hd
          exact ⟨_, rfl, .inr ⟨c, c', s, m, rfl, rfl, R, R'.imm (simm s12), G⟩⟩
        · rw [e] at hd
          have hd : d = .non := hd
          subst hd
          exact ⟨_, rfl, .inl ⟨rfl, rfl, .inl ⟨z, rfl, by omega, e⟩⟩⟩
      · obtain ⟨t, ty, kt⟩ := ho.ty (K := K)
        refine ⟨_, rfl, v, rfl, .inr ⟨t, ty, kt, fun H12 s12 => ⟨true, xNoText.exm S.r.s, fun _ a ha => ?_, fun q => Bool.noConfusion q⟩⟩⟩
        exact ⟨_, rfl, .inl ⟨rfl, rfl, .inr (ho.same s12)⟩⟩
    rintro σ H12 ⟨t, rfl, ht⟩
    refine ⟨fun _ _ => True, ?_, ?_⟩
    · rcases ht with ⟨rfl, rfl, hv⟩ | ⟨c, c', s, m, rfl, rfl, R, R', G⟩
      · refine ⟨_, rfl, _, rfl, .inl rfl, true, rfl, iteF ⟨_, rfl, rfl, _, rfl, ?_⟩⟩
        rw [isn_non]
        exact iteT ⟨_, rfl, v, rfl, hv, fun H' s' => ⟨true, rfl, iteF trivial⟩⟩
      · refine ⟨_, rfl, _, rfl, .inr ⟨c, c', s, m, rfl, R, R', G⟩, true, rfl, iteF ⟨_, rfl, rfl, _, rfl, ?_⟩⟩
        rw [isn_ref]
        exact iteF (iteF trivial)
    · rintro σ H13 _
      refine ⟨_, rfl, .inl ⟨Str.ofString "a b > 0 1\n>", rfl, by decide +kernel, fun s m e G H14 c s14 R => ?_, fun e => absurd e (by rw [ab_text]; intro k; cases k)⟩⟩
      rw [ab_text] at e
      cases e
      refine ⟨by show 2 ≤ sizeLine; decide, fun t1 h1 => ⟨by show 0 ≤ sizeLine; decide, fun t2 h2 => ⟨by show 2 ≤ sizeLine; decide, fun t3 h3 => ⟨by show 2 ≤ sizeLine; decide, fun t4 h4 => ⟨by show 0 ≤ sizeLine; decide, fun t5 h5 => ⟨by show 2 ≤ sizeLine; decide, fun t6 h6 => ⟨by show 2 ≤ sizeLine; decide, fun t7 h7 => ?_⟩⟩⟩⟩⟩⟩⟩
      have z1 := same_upd (o := .tup (([0, 1] : List Int).map V.int)) h1
      have z2 := same_upd (o := .tup (([] : List Int).map V.int)) h2
      have z3 := same_upd (o := .tup ([t1, t2].map V.ref)) h3
      have z4 := same_upd (o := .tup (([Str.ofString "a", Str.ofString "b"] : List Str).map V.str)) h4
      have z5 := same_upd (o := .tup (([] : List Str).map V.str)) h5
      have z6 := same_upd (o := .tup ([t4, t5].map V.ref)) h6
      have z7 := same_upd (o := .tup [.ref t3, .ref t6]) h7
      have z67 := z6.trans z7
      have z57 := z5.trans z67
      have z47 := z4.trans z57
      have z37 := z3.trans z47
      have z27 := z2.trans z37
      have z17 := z1.trans z27
      exact ⟨.inr ⟨c, t7, [[0, 1], []], [[Str.ofString "a", Str.ofString "b"], []], rfl, R.imm (simm z17), ⟨t3, t6, [t1, t2], [t4, t5], SqT.of upd_same, SqT.of (z47 _ _ upd_same), SqT.of (z7 _ _ upd_same), .cons (SqT.of (z27 _ _ upd_same)) (.cons (SqT.of (z37 _ _ upd_same)) .nil), .cons (SqT.of (z57 _ _ upd_same)) (.cons (SqT.of (z67 _ _ upd_same)) .nil)⟩, G⟩, q _⟩
end

/-! ### what the top has written; the law's own head -/
theorem all_mk {l : PySem.W.OpenLaw} {w : World} {K : PySem.W.Frag} {h : Heap} {mg : Str → Option Value} {fa f1 f2 f3 f4 f5 f6 f7 f8 f9 f10 f11 f12 f13 f14 f15 f16 f17 f18 f19 f20 f21 f22 f23 f24 f25 f26 : Addr} (X : K.In h) (G : h.Ns mainGlobals mg) (hfa : mg "law" = some (.ref fa))
    {od1 an1 od2 an2 od3 an3 od4 an4 od5 an5 od6 an6 od7 an7 od8 an8 od9 an9 od10 an10 od11 an11 od12 an12 od13 an13 od14 an14 od15 an15 od16 an16 od17 an17 od18 an18 od19 an19 od20 an20 od21 an21 od22 an22 od23 an23 od24 an24 od25 an25 od26 an26 : Option Addr} {sl1 sl2 sl3 sl4 sl5 sl6 sl7 sl8 sl9 sl10 sl11 sl12 sl13 sl14 sl15 sl16 sl17 sl18 sl19 sl20 sl21 sl22 sl23 sl24 sl25 sl26 : Array (Option Value)} {oc1 kV1 dc1 pm1 cd1 ct1 oc2 kV2 dc2 pm2 cd2 ct2 oc3 kV3 dc3 pm3 cd3 ct3 oc4 kV4 dc4 pm4 cd4 ct4 oc5 kV5 dc5 pm5 cd5 ct5 oc6 kV6 dc6 pm6 cd6 ct6 oc7 kV7 dc7 pm7 cd7 ct7 oc8 kV8 dc8 pm8 cd8 ct8 oc9 kV9 dc9 pm9 cd9 ct9 oc10 kV10 dc10 pm10 cd10 ct10 oc11 kV11 dc11 pm11 cd11 ct11 oc12 kV12 dc12 pm12 cd12 ct12 oc13 kV13 dc13 pm13 cd13 ct13 oc14 kV14 dc14 pm14 cd14 ct14 oc15 kV15 dc15 pm15 cd15 ct15 oc16 kV16 dc16 pm16 cd16 ct16 oc17 kV17 dc17 pm17 cd17 ct17 oc18 kV18 dc18 pm18 cd18 ct18 oc19 kV19 dc19 pm19 cd19 ct19 oc20 kV20 dc20 pm20 cd20 ct20 oc21 kV21 dc21 pm21 cd21 ct21 oc22 kV22 dc22 pm22 cd22 ct22 oc23 kV23 dc23 pm23 cd23 ct23 oc24 kV24 dc24 pm24 cd24 ct24 oc25 kV25 dc25 pm25 cd25 ct25 oc26 kV26 dc26 pm26 cd26 ct26 : Value}
    (a1 : PySem.W.nsIn K mainGlobals "is_whole" = some (some (.ref f1))) (l1 : K.lookup f1 = some ⟨oc1, od1, .func (PySem.W.fnOf "is_whole" "is_whole" (defArgs sis_whole) (defBody sis_whole) (defScope sis_whole) .none kV1 dc1 pm1 an1 cd1 ct1), sl1⟩) (c1 : PySem.W.codeIn K cd1 "is_whole" = true) (k1 : PySem.W.keepIn K (.ref f1) = true)
    (a2 : PySem.W.nsIn K mainGlobals "is_number" = some (some (.ref f2))) (l2 : K.lookup f2 = some ⟨oc2, od2, .func (PySem.W.fnOf "is_number" "is_number" (defArgs sis_number) (defBody sis_number) (defScope sis_number) .none kV2 dc2 pm2 an2 cd2 ct2), sl2⟩) (c2 : PySem.W.codeIn K cd2 "is_number" = true) (k2 : PySem.W.keepIn K (.ref f2) = true)
    (a3 : PySem.W.nsIn K mainGlobals "is_row" = some (some (.ref f3))) (l3 : K.lookup f3 = some ⟨oc3, od3, .func (PySem.W.fnOf "is_row" "is_row" (defArgs sis_row) (defBody sis_row) (defScope sis_row) .none kV3 dc3 pm3 an3 cd3 ct3), sl3⟩) (c3 : PySem.W.codeIn K cd3 "is_row" = true) (k3 : PySem.W.keepIn K (.ref f3) = true)
    (a4 : PySem.W.nsIn K mainGlobals "is_name" = some (some (.ref f4))) (l4 : K.lookup f4 = some ⟨oc4, od4, .func (PySem.W.fnOf "is_name" "is_name" (defArgs sis_name) (defBody sis_name) (defScope sis_name) .none kV4 dc4 pm4 an4 cd4 ct4), sl4⟩) (c4 : PySem.W.codeIn K cd4 "is_name" = true) (k4 : PySem.W.keepIn K (.ref f4) = true)
    (a5 : PySem.W.nsIn K mainGlobals "is_set" = some (some (.ref f5))) (l5 : K.lookup f5 = some ⟨oc5, od5, .func (PySem.W.fnOf "is_set" "is_set" (defArgs sis_set) (defBody sis_set) (defScope sis_set) .none kV5 dc5 pm5 an5 cd5 ct5), sl5⟩) (c5 : PySem.W.codeIn K cd5 "is_set" = true) (k5 : PySem.W.keepIn K (.ref f5) = true)
    (a6 : PySem.W.nsIn K mainGlobals "are_names" = some (some (.ref f6))) (l6 : K.lookup f6 = some ⟨oc6, od6, .func (PySem.W.fnOf "are_names" "are_names" (defArgs sare_names) (defBody sare_names) (defScope sare_names) .none kV6 dc6 pm6 an6 cd6 ct6), sl6⟩) (c6 : PySem.W.codeIn K cd6 "are_names" = true) (k6 : PySem.W.keepIn K (.ref f6) = true)
    (a7 : PySem.W.nsIn K mainGlobals "is_machine" = some (some (.ref f7))) (l7 : K.lookup f7 = some ⟨oc7, od7, .func (PySem.W.fnOf "is_machine" "is_machine" (defArgs sis_machine) (defBody sis_machine) (defScope sis_machine) .none kV7 dc7 pm7 an7 cd7 ct7), sl7⟩) (c7 : PySem.W.codeIn K cd7 "is_machine" = true) (k7 : PySem.W.keepIn K (.ref f7) = true)
    (a8 : PySem.W.nsIn K mainGlobals "read_line" = some (some (.ref f8))) (l8 : K.lookup f8 = some ⟨oc8, od8, .func (PySem.W.fnOf "read_line" "read_line" (defArgs sread_line) (defBody sread_line) (defScope sread_line) .none kV8 dc8 pm8 an8 cd8 ct8), sl8⟩) (c8 : PySem.W.codeIn K cd8 "read_line" = true) (k8 : PySem.W.keepIn K (.ref f8) = true)
    (a9 : PySem.W.nsIn K mainGlobals "read_machine" = some (some (.ref f9))) (l9 : K.lookup f9 = some ⟨oc9, od9, .func (PySem.W.fnOf "read_machine" "read_machine" (defArgs sread_machine) (defBody sread_machine) (defScope sread_machine) .none kV9 dc9 pm9 an9 cd9 ct9), sl9⟩) (c9 : PySem.W.codeIn K cd9 "read_machine" = true) (k9 : PySem.W.keepIn K (.ref f9) = true)
    (a10 : PySem.W.nsIn K mainGlobals "_law_pool" = some (some (.ref f10))) (l10 : K.lookup f10 = some ⟨oc10, od10, .func (PySem.W.fnOf "_law_pool" "_law_pool" (defArgs s_law_pool) (defBody s_law_pool) (defScope s_law_pool) .none kV10 dc10 pm10 an10 cd10 ct10), sl10⟩) (c10 : PySem.W.codeIn K cd10 "_law_pool" = true) (k10 : PySem.W.keepIn K (.ref f10) = true)
    (a11 : PySem.W.nsIn K mainGlobals "_law_draw" = some (some (.ref f11))) (l11 : K.lookup f11 = some ⟨oc11, od11, .func (PySem.W.fnOf "_law_draw" "_law_draw" (defArgs s_law_draw) (defBody s_law_draw) (defScope s_law_draw) .none kV11 dc11 pm11 an11 cd11 ct11), sl11⟩) (c11 : PySem.W.codeIn K cd11 "_law_draw" = true) (k11 : PySem.W.keepIn K (.ref f11) = true)
    (a12 : PySem.W.nsIn K mainGlobals "_law_name" = some (some (.ref f12))) (l12 : K.lookup f12 = some ⟨oc12, od12, .func (PySem.W.fnOf "_law_name" "_law_name" (defArgs s_law_name) (defBody s_law_name) (defScope s_law_name) .none kV12 dc12 pm12 an12 cd12 ct12), sl12⟩) (c12 : PySem.W.codeIn K cd12 "_law_name" = true) (k12 : PySem.W.keepIn K (.ref f12) = true)
    (a13 : PySem.W.nsIn K mainGlobals "_law_names" = some (some (.ref f13))) (l13 : K.lookup f13 = some ⟨oc13, od13, .func (PySem.W.fnOf "_law_names" "_law_names" (defArgs s_law_names) (defBody s_law_names) (defScope s_law_names) .none kV13 dc13 pm13 an13 cd13 ct13), sl13⟩) (c13 : PySem.W.codeIn K cd13 "_law_names" = true) (k13 : PySem.W.keepIn K (.ref f13) = true)
    (a14 : PySem.W.nsIn K mainGlobals "_law_machine" = some (some (.ref f14))) (l14 : K.lookup f14 = some ⟨oc14, od14, .func (PySem.W.fnOf "_law_machine" "_law_machine" (defArgs s_law_machine) (defBody s_law_machine) (defScope s_law_machine) .none kV14 dc14 pm14 an14 cd14 ct14), sl14⟩) (c14 : PySem.W.codeIn K cd14 "_law_machine" = true) (k14 : PySem.W.keepIn K (.ref f14) = true)
    (a15 : PySem.W.nsIn K mainGlobals "_law_good_name" = some (some (.ref f15))) (l15 : K.lookup f15 = some ⟨oc15, od15, .func (PySem.W.fnOf "_law_good_name" "_law_good_name" (defArgs s_law_good_name) (defBody s_law_good_name) (defScope s_law_good_name) .none kV15 dc15 pm15 an15 cd15 ct15), sl15⟩) (c15 : PySem.W.codeIn K cd15 "_law_good_name" = true) (k15 : PySem.W.keepIn K (.ref f15) = true)
    (a16 : PySem.W.nsIn K mainGlobals "_law_same" = some (some (.ref f16))) (l16 : K.lookup f16 = some ⟨oc16, od16, .func (PySem.W.fnOf "_law_same" "_law_same" (defArgs s_law_same) (defBody s_law_same) (defScope s_law_same) .none kV16 dc16 pm16 an16 cd16 ct16), sl16⟩) (c16 : PySem.W.codeIn K cd16 "_law_same" = true) (k16 : PySem.W.keepIn K (.ref f16) = true)
    (a17 : PySem.W.nsIn K mainGlobals "_law_sign" = some (some (.ref f17))) (l17 : K.lookup f17 = some ⟨oc17, od17, .func (PySem.W.fnOf "_law_sign" "_law_sign" (defArgs s_law_sign) (defBody s_law_sign) (defScope s_law_sign) .none kV17 dc17 pm17 an17 cd17 ct17), sl17⟩) (c17 : PySem.W.codeIn K cd17 "_law_sign" = true) (k17 : PySem.W.keepIn K (.ref f17) = true)
    (a18 : PySem.W.nsIn K mainGlobals "_law_bent_text" = some (some (.ref f18))) (l18 : K.lookup f18 = some ⟨oc18, od18, .func (PySem.W.fnOf "_law_bent_text" "_law_bent_text" (defArgs s_law_bent_text) (defBody s_law_bent_text) (defScope s_law_bent_text) .none kV18 dc18 pm18 an18 cd18 ct18), sl18⟩) (c18 : PySem.W.codeIn K cd18 "_law_bent_text" = true) (k18 : PySem.W.keepIn K (.ref f18) = true)
    (a19 : PySem.W.nsIn K mainGlobals "_law_places" = some (some (.ref f19))) (l19 : K.lookup f19 = some ⟨oc19, od19, .func (PySem.W.fnOf "_law_places" "_law_places" (defArgs s_law_places) (defBody s_law_places) (defScope s_law_places) .none kV19 dc19 pm19 an19 cd19 ct19), sl19⟩) (c19 : PySem.W.codeIn K cd19 "_law_places" = true) (k19 : PySem.W.keepIn K (.ref f19) = true)
    (a20 : PySem.W.nsIn K mainGlobals "_law_line" = some (some (.ref f20))) (l20 : K.lookup f20 = some ⟨oc20, od20, .func (PySem.W.fnOf "_law_line" "_law_line" (defArgs s_law_line) (defBody s_law_line) (defScope s_law_line) .none kV20 dc20 pm20 an20 cd20 ct20), sl20⟩) (c20 : PySem.W.codeIn K cd20 "_law_line" = true) (k20 : PySem.W.keepIn K (.ref f20) = true)
    (a21 : PySem.W.nsIn K mainGlobals "_law_machine_text" = some (some (.ref f21))) (l21 : K.lookup f21 = some ⟨oc21, od21, .func (PySem.W.fnOf "_law_machine_text" "_law_machine_text" (defArgs s_law_machine_text) (defBody s_law_machine_text) (defScope s_law_machine_text) .none kV21 dc21 pm21 an21 cd21 ct21), sl21⟩) (c21 : PySem.W.codeIn K cd21 "_law_machine_text" = true) (k21 : PySem.W.keepIn K (.ref f21) = true)
    (a22 : PySem.W.nsIn K mainGlobals "_law_rising" = some (some (.ref f22))) (l22 : K.lookup f22 = some ⟨oc22, od22, .func (PySem.W.fnOf "_law_rising" "_law_rising" (defArgs s_law_rising) (defBody s_law_rising) (defScope s_law_rising) .none kV22 dc22 pm22 an22 cd22 ct22), sl22⟩) (c22 : PySem.W.codeIn K cd22 "_law_rising" = true) (k22 : PySem.W.keepIn K (.ref f22) = true)
    (a23 : PySem.W.nsIn K mainGlobals "_law_read_machine" = some (some (.ref f23))) (l23 : K.lookup f23 = some ⟨oc23, od23, .func (PySem.W.fnOf "_law_read_machine" "_law_read_machine" (defArgs s_law_read_machine) (defBody s_law_read_machine) (defScope s_law_read_machine) .none kV23 dc23 pm23 an23 cd23 ct23), sl23⟩) (c23 : PySem.W.codeIn K cd23 "_law_read_machine" = true) (k23 : PySem.W.keepIn K (.ref f23) = true)
    (a24 : PySem.W.nsIn K mainGlobals "_law_odd_line" = some (some (.ref f24))) (l24 : K.lookup f24 = some ⟨oc24, od24, .func (PySem.W.fnOf "_law_odd_line" "_law_odd_line" (defArgs s_law_odd_line) (defBody s_law_odd_line) (defScope s_law_odd_line) .none kV24 dc24 pm24 an24 cd24 ct24), sl24⟩) (c24 : PySem.W.codeIn K cd24 "_law_odd_line" = true) (k24 : PySem.W.keepIn K (.ref f24) = true)
    (a25 : PySem.W.nsIn K mainGlobals "_law_by_base" = some (some (.ref f25))) (l25 : K.lookup f25 = some ⟨oc25, od25, .func (PySem.W.fnOf "_law_by_base" "_law_by_base" (defArgs s_law_by_base) (defBody s_law_by_base) (defScope s_law_by_base) .none kV25 dc25 pm25 an25 cd25 ct25), sl25⟩) (c25 : PySem.W.codeIn K cd25 "_law_by_base" = true) (k25 : PySem.W.keepIn K (.ref f25) = true)
    (a26 : PySem.W.nsIn K mainGlobals "law" = some (some (.ref f26))) (l26 : K.lookup f26 = some ⟨oc26, od26, .func (PySem.W.fnOf "law" "law" (defArgs slaw) (defBody slaw) (defScope slaw) .none kV26 dc26 pm26 an26 cd26 ct26), sl26⟩) (c26 : PySem.W.codeIn K cd26 "law" = true) (k26 : PySem.W.keepIn K (.ref f26) = true)
    (z_ValueError : PySem.W.nsIn K mainGlobals "ValueError" = some none)
    (z_len : PySem.W.nsIn K mainGlobals "len" = some none)
    (z_range : PySem.W.nsIn K mainGlobals "range" = some none)
    (z_isinstance : PySem.W.nsIn K mainGlobals "isinstance" = some none)
    (z_tuple : PySem.W.nsIn K mainGlobals "tuple" = some none)
    (z_bool : PySem.W.nsIn K mainGlobals "bool" = some none)
    (z_int : PySem.W.nsIn K mainGlobals "int" = some none)
    (z_str : PySem.W.nsIn K mainGlobals "str" = some none)
    (z_sorted : PySem.W.nsIn K mainGlobals "sorted" = some none)
    (z_list : PySem.W.nsIn K mainGlobals "list" = some none)
    {aWORDS : Addr} {odWORDS : Option Addr} {itsWORDS : Array Value} {nWORDS : Nat} {slWORDS : Array (Option Value)} (gWORDS : PySem.W.nsIn K mainGlobals "WORDS" = some (some (.ref aWORDS))) (lWORDS : K.lookup aWORDS = some ⟨.type "tuple", odWORDS, .seq itsWORDS nWORDS, slWORDS⟩) (sWORDS : itsWORDS.size ≤ sizeLine) (vWORDS : Vals (wordsL.map V.str) itsWORDS.toList)
    {uLETTERS : Value} (gLETTERS : PySem.W.nsIn K mainGlobals "LETTERS" = some (some uLETTERS)) (rLETTERS : RelV (.str lettersS) uLETTERS)
    {xcNoText : Addr} (gXNoText : PySem.W.nsIn K mainGlobals "NoText" = some (some (.ref xcNoText))) (kXNoText : PySem.W.keepIn K (.ref xcNoText) = true) (bXNoText : PySem.W.subIn K (.ref xcNoText) (.type "BaseException") = some true) (tXNoText : PySem.W.typeIn K (.ref xcNoText) = some (.type "type")) (hXNoText : PySem.W.hasDictIn K xcNoText = true)
    {xcTreeError : Addr} (gXTreeError : PySem.W.nsIn K mainGlobals "TreeError" = some (some (.ref xcTreeError))) (kXTreeError : PySem.W.keepIn K (.ref xcTreeError) = true) (bXTreeError : PySem.W.subIn K (.ref xcTreeError) (.type "BaseException") = some true) (tXTreeError : PySem.W.typeIn K (.ref xcTreeError) = some (.type "type")) (hXTreeError : PySem.W.hasDictIn K xcTreeError = true)
    {xcNoMachine : Addr} (gXNoMachine : PySem.W.nsIn K mainGlobals "NoMachine" = some (some (.ref xcNoMachine))) (kXNoMachine : PySem.W.keepIn K (.ref xcNoMachine) = true) (bXNoMachine : PySem.W.subIn K (.ref xcNoMachine) (.type "BaseException") = some true) (tXNoMachine : PySem.W.typeIn K (.ref xcNoMachine) = some (.type "type")) (hXNoMachine : PySem.W.hasDictIn K xcNoMachine = true)
    {xcNoSaying : Addr} (gXNoSaying : PySem.W.nsIn K mainGlobals "NoSaying" = some (some (.ref xcNoSaying))) (kXNoSaying : PySem.W.keepIn K (.ref xcNoSaying) = true) (bXNoSaying : PySem.W.subIn K (.ref xcNoSaying) (.type "BaseException") = some true) (tXNoSaying : PySem.W.typeIn K (.ref xcNoSaying) = some (.type "type")) (hXNoSaying : PySem.W.hasDictIn K xcNoSaying = true)
    (eX : PySem.W.excIn K xcNoText [.type "ValueError", .type "Exception", .type "BaseException", .type "object"] "ValueError.__new__" = true)
    (e1 : PySem.W.findIn K (.ref xcNoText) "__getattribute__" = some (some (.builtin "BaseException.__getattribute__")))
    (e2 : PySem.W.findIn K (.ref xcNoText) "__getattr__" = some none)
    (e3 : PySem.W.findIn K (.ref xcNoText) "__class__" = some (some (.builtin "object.__class__")))
    (e4 : PySem.W.specialIn K (.builtin "object.__class__") "__get__" = some (some (.builtin "getset_descriptor.__get__")))
    (e5 : PySem.W.takesIn K (.builtin "object.__class__") = some true)
    (e6 : PySem.W.mroIn K xcNoText (.type "object") = some true)
    (e7 : PySem.W.subIn K (.ref xcNoText) (.ref xcNoText) = some true)
    (e8 : PySem.W.subIn K (.ref xcNoText) (.type "ValueError") = some true)
    (eT : PySem.W.subIn K (.ref xcNoText) (.ref xcTreeError) = some true)
    (eA : PySem.W.subIn K (.ref xcNoText) (.ref xcNoMachine) = some false)
    (eB : PySem.W.subIn K (.ref xcNoText) (.ref xcNoSaying) = some false)
    : ∃ fd : FuncData, (∀ (s : Shared) (v : Value), BindsTo s fd ⟨[v], []⟩ [("_law_script", v)]) ∧ ∀ base : Heap, K.In base → base.Ns mainGlobals mg → FnOk l.prog w K mg base CX0 7 fa fd ["_law_script"] (spLaw K) := by
  have e := hfa.symm.trans (PySem.W.mg_of X G a26)
  cases e
  have F1 := fun_mk (st := sis_whole) l1 c1 k1
  have F2 := fun_mk (st := sis_number) l2 c2 k2
  have F3 := fun_mk (st := sis_row) l3 c3 k3
  have F4 := fun_mk (st := sis_name) l4 c4 k4
  have F5 := fun_mk (st := sis_set) l5 c5 k5
  have F6 := fun_mk (st := sare_names) l6 c6 k6
  have F7 := fun_mk (st := sis_machine) l7 c7 k7
  have F8 := fun_mk (st := sread_line) l8 c8 k8
  have F9 := fun_mk (st := sread_machine) l9 c9 k9
  have F10 := fun_mk (st := s_law_pool) l10 c10 k10
  have F11 := fun_mk (st := s_law_draw) l11 c11 k11
  have F12 := fun_mk (st := s_law_name) l12 c12 k12
  have F13 := fun_mk (st := s_law_names) l13 c13 k13
  have F14 := fun_mk (st := s_law_machine) l14 c14 k14
  have F15 := fun_mk (st := s_law_good_name) l15 c15 k15
  have F16 := fun_mk (st := s_law_same) l16 c16 k16
  have F17 := fun_mk (st := s_law_sign) l17 c17 k17
  have F18 := fun_mk (st := s_law_bent_text) l18 c18 k18
  have F19 := fun_mk (st := s_law_places) l19 c19 k19
  have F20 := fun_mk (st := s_law_line) l20 c20 k20
  have F21 := fun_mk (st := s_law_machine_text) l21 c21 k21
  have F22 := fun_mk (st := s_law_rising) l22 c22 k22
  have F23 := fun_mk (st := s_law_read_machine) l23 c23 k23
  have F24 := fun_mk (st := s_law_odd_line) l24 c24 k24
  have F25 := fun_mk (st := s_law_by_base) l25 c25 k25
  have F26 := fun_mk (st := slaw) l26 c26 k26
  have b1 := F1.binds (ps := ["thing"]) fun _ _ _ _ _ _ us hl => match us, hl with | [_], _ => rfl
  have b2 := F2.binds (ps := ["thing", "low", "high"]) fun _ _ _ _ _ _ us hl => match us, hl with | [_, _, _], _ => rfl
  have b3 := F3.binds (ps := ["thing", "least", "most"]) fun _ _ _ _ _ _ us hl => match us, hl with | [_, _, _], _ => rfl
  have b4 := F4.binds (ps := ["thing"]) fun _ _ _ _ _ _ us hl => match us, hl with | [_], _ => rfl
  have b5 := F5.binds (ps := ["thing", "many"]) fun _ _ _ _ _ _ us hl => match us, hl with | [_, _], _ => rfl
  have b6 := F6.binds (ps := ["thing", "most"]) fun _ _ _ _ _ _ us hl => match us, hl with | [_, _], _ => rfl
  have b7 := F7.binds (ps := ["thing"]) fun _ _ _ _ _ _ us hl => match us, hl with | [_], _ => rfl
  have b8 := F8.binds (ps := ["line", "places"]) fun _ _ _ _ _ _ us hl => match us, hl with | [_, _], _ => rfl
  have b9 := F9.binds (ps := ["text"]) fun _ _ _ _ _ _ us hl => match us, hl with | [_], _ => rfl
  have b10 := F10.binds (ps := ["_law_script"]) fun _ _ _ _ _ _ us hl => match us, hl with | [_], _ => rfl
  have b11 := F11.binds (ps := ["_law_pool_here", "_law_many"]) fun _ _ _ _ _ _ us hl => match us, hl with | [_, _], _ => rfl
  have b12 := F12.binds (ps := ["_law_pool_here", "_law_start", "_law_taken"]) fun _ _ _ _ _ _ us hl => match us, hl with | [_, _, _], _ => rfl
  have b13 := F13.binds (ps := ["_law_pool_here", "_law_many"]) fun _ _ _ _ _ _ us hl => match us, hl with | [_, _], _ => rfl
  have b14 := F14.binds (ps := ["_law_pool_here", "_law_names_here", "_law_most"]) fun _ _ _ _ _ _ us hl => match us, hl with | [_, _, _], _ => rfl
  have b15 := F15.binds (ps := ["_law_thing"]) fun _ _ _ _ _ _ us hl => match us, hl with | [_], _ => rfl
  have b16 := F16.binds (ps := ["_law_found", "_law_due"]) fun _ _ _ _ _ _ us hl => match us, hl with | [_, _], _ => rfl
  have b17 := F17.binds (ps := ["_law_pool_here"]) fun _ _ _ _ _ _ us hl => match us, hl with | [_], _ => rfl
  have b18 := F18.binds (ps := ["_law_pool_here", "_law_text"]) fun _ _ _ _ _ _ us hl => match us, hl with | [_, _], _ => rfl
  have b19 := F19.binds (ps := ["_law_many"]) fun _ _ _ _ _ _ us hl => match us, hl with | [_], _ => rfl
  have b20 := F20.binds (ps := ["_law_onto", "_law_names_here"]) fun _ _ _ _ _ _ us hl => match us, hl with | [_, _], _ => rfl
  have b21 := F21.binds (ps := ["_law_machine_here"]) fun _ _ _ _ _ _ us hl => match us, hl with | [_], _ => rfl
  have b22 := F22.binds (ps := ["_law_row"]) fun _ _ _ _ _ _ us hl => match us, hl with | [_], _ => rfl
  have b23 := F23.binds (ps := ["_law_text"]) fun _ _ _ _ _ _ us hl => match us, hl with | [_], _ => rfl
  have b24 := F24.binds (ps := ["_law_pool_here", "_law_text"]) fun _ _ _ _ _ _ us hl => match us, hl with | [_, _], _ => rfl
  have b25 := F25.binds (ps := ["_law_thing"]) fun _ _ _ _ _ _ us hl => match us, hl with | [_], _ => rfl
  have T : Bi mg := ⟨PySem.W.mg_none_of X G z_ValueError, PySem.W.mg_none_of X G z_len, PySem.W.mg_none_of X G z_range, PySem.W.mg_none_of X G z_isinstance, PySem.W.mg_none_of X G z_tuple, PySem.W.mg_none_of X G z_bool, PySem.W.mg_none_of X G z_int, PySem.W.mg_none_of X G z_str, PySem.W.mg_none_of X G z_sorted, PySem.W.mg_none_of X G z_list⟩
  have S : XSet K mg "NoText" "NoMachine" "NoSaying" := ⟨xcNoText, xcTreeError, xcNoMachine, xcNoSaying, ⟨PySem.W.mg_of X G gXNoText, kXNoText, bXNoText, tXNoText, hXNoText⟩, ⟨PySem.W.mg_of X G gXTreeError, kXTreeError, bXTreeError, tXTreeError, hXTreeError⟩, ⟨PySem.W.mg_of X G gXNoMachine, kXNoMachine, bXNoMachine, tXNoMachine, hXNoMachine⟩, ⟨PySem.W.mg_of X G gXNoSaying, kXNoSaying, bXNoSaying, tXNoSaying, hXNoSaying⟩, ⟨eX, ⟨e1, e2, bXNoText, hXNoText, e3, e4, e5, e6⟩, e7, e8⟩, eT, eA, eB⟩
  have W : Wd K mg := ⟨aWORDS, uLETTERS, PySem.W.mg_of X G gWORDS, rfl, fun _ => .inr ⟨_, _, _, lWORDS, rfl, rfl, sWORDS, vWORDS⟩, PySem.W.mg_of X G gLETTERS, rLETTERS⟩
  refine ⟨PySem.W.fnOf "law" "law" (defArgs slaw) (defBody slaw) (defScope slaw) .none kV26 dc26 pm26 an26 cd26 ct26, fun s v => .of_eq rfl, fun base _ _ => ?_⟩
  have cis_whole : Cal l.prog w K mg base 1 "is_whole" ["thing"] spWhole := ⟨f1, _, ok_whole F1 T, PySem.W.mg_of X G a1, F1.kp, b1⟩
  have cis_number : Cal l.prog w K mg base 2 "is_number" ["thing", "low", "high"] spNumber := ⟨f2, _, ok_number F2 T cis_whole, PySem.W.mg_of X G a2, F2.kp, b2⟩
  have cis_row : Cal l.prog w K mg base 1 "is_row" ["thing", "least", "most"] (spRow K) := ⟨f3, _, ok_row F3 T, PySem.W.mg_of X G a3, F3.kp, b3⟩
  have cis_name : Cal l.prog w K mg base 1 "is_name" ["thing"] spNameS := ⟨f4, _, ok_nameS F4 T W, PySem.W.mg_of X G a4, F4.kp, b4⟩
  have cis_set : Cal l.prog w K mg base 3 "is_set" ["thing", "many"] (spSetB K) := ⟨f5, _, ok_setB F5 cis_row cis_number, PySem.W.mg_of X G a5, F5.kp, b5⟩
  have care_names : Cal l.prog w K mg base 2 "are_names" ["thing", "most"] (spNamesB K) := ⟨f6, _, ok_namesB F6 cis_row cis_name, PySem.W.mg_of X G a6, F6.kp, b6⟩
  have cis_machine : Cal l.prog w K mg base 4 "is_machine" ["thing"] (spMachB K) := ⟨f7, _, ok_machB F7 T cis_row cis_set care_names, PySem.W.mg_of X G a7, F7.kp, b7⟩
  have cread_line : CalX l.prog w K mg base 1 "read_line" ["line", "places"] (spRLG K S.R) := ⟨f8, _, ok_rlg F8 T (⟨S.R, S.xR, S.r⟩ : XOne K mg "NoText"), PySem.W.mg_of X G a8, F8.kp, b8⟩
  have cread_machine : CalX l.prog w K mg base 5 "read_machine" ["text"] (spRMG K S.R) := ⟨f9, _, ok_rmg F9 T (⟨S.R, S.xR, S.r⟩ : XOne K mg "NoText") cis_machine cread_line, PySem.W.mg_of X G a9, F9.kp, b9⟩
  have c_law_pool : Cal l.prog w K mg base 1 "_law_pool" ["_law_script"] (spPool K) := ⟨f10, _, ok_pool F10 , PySem.W.mg_of X G a10, F10.kp, b10⟩
  have c_law_draw : Cal l.prog w K mg base 1 "_law_draw" ["_law_pool_here", "_law_many"] spDraw := ⟨f11, _, ok_draw F11 T, PySem.W.mg_of X G a11, F11.kp, b11⟩
  have c_law_name : Cal l.prog w K mg base 2 "_law_name" ["_law_pool_here", "_law_start", "_law_taken"] spLName := ⟨f12, _, ok_lname F12 T c_law_draw, PySem.W.mg_of X G a12, F12.kp, b12⟩
  have c_law_names : Cal l.prog w K mg base 3 "_law_names" ["_law_pool_here", "_law_many"] spLNames := ⟨f13, _, ok_lnames F13 T c_law_draw c_law_name, PySem.W.mg_of X G a13, F13.kp, b13⟩
  have c_law_machine : Cal l.prog w K mg base 2 "_law_machine" ["_law_pool_here", "_law_names_here", "_law_most"] (spLMach K) := ⟨f14, _, ok_lmach F14 T c_law_draw, PySem.W.mg_of X G a14, F14.kp, b14⟩
  have c_law_good_name : Cal l.prog w K mg base 1 "_law_good_name" ["_law_thing"] spNameS := ⟨f15, _, ok_goodS F15 T, PySem.W.mg_of X G a15, F15.kp, b15⟩
  have c_law_same : Cal l.prog w K mg base 5 "_law_same" ["_law_found", "_law_due"] (spSM K) := ⟨f16, _, ok_same5 F16 T (PySem.W.mg_of X G a16) F16.kp b16, PySem.W.mg_of X G a16, F16.kp, b16⟩
  have c_law_sign : Cal l.prog w K mg base 2 "_law_sign" ["_law_pool_here"] spSign := ⟨f17, _, ok_sign F17 T c_law_draw, PySem.W.mg_of X G a17, F17.kp, b17⟩
  have c_law_bent_text : Cal l.prog w K mg base 3 "_law_bent_text" ["_law_pool_here", "_law_text"] spBT := ⟨f18, _, ok_bend F18 T c_law_draw c_law_sign, PySem.W.mg_of X G a18, F18.kp, b18⟩
  have c_law_places : Cal l.prog w K mg base 1 "_law_places" ["_law_many"] (spPlaces K) := ⟨f19, _, ok_places F19 T, PySem.W.mg_of X G a19, F19.kp, b19⟩
  have c_law_line : Cal l.prog w K mg base 1 "_law_line" ["_law_onto", "_law_names_here"] (spLL K) := ⟨f20, _, ok_ll F20 T, PySem.W.mg_of X G a20, F20.kp, b20⟩
  have c_law_machine_text : Cal l.prog w K mg base 2 "_law_machine_text" ["_law_machine_here"] (spMT K) := ⟨f21, _, ok_lmt F21 T c_law_line, PySem.W.mg_of X G a21, F21.kp, b21⟩
  have c_law_rising : Cal l.prog w K mg base 1 "_law_rising" ["_law_row"] (spRis K) := ⟨f22, _, ok_ris F22 T, PySem.W.mg_of X G a22, F22.kp, b22⟩
  have c_law_read_machine : Cal l.prog w K mg base 2 "_law_read_machine" ["_law_text"] (spLRM K) := ⟨f23, _, ok_lrm F23 T c_law_places c_law_good_name c_law_rising, PySem.W.mg_of X G a23, F23.kp, b23⟩
  have c_law_odd_line : Cal l.prog w K mg base 2 "_law_odd_line" ["_law_pool_here", "_law_text"] spOdd := ⟨f24, _, ok_odd F24 T c_law_draw, PySem.W.mg_of X G a24, F24.kp, b24⟩
  have c_law_by_base : Cal l.prog w K mg base 6 "_law_by_base" ["_law_thing"] spBB := ⟨f25, _, ok_bb F25 T S cread_machine, PySem.W.mg_of X G a25, F25.kp, b25⟩
  exact ok_law F26 T S c_law_pool c_law_draw c_law_names c_law_machine c_law_machine_text c_law_odd_line c_law_bent_text c_law_read_machine cread_machine c_law_same c_law_by_base
end Fx
open PySem PySem.W PyProof.Rows
set_option maxHeartbeats 0 in
theorem PySem.Challenge.cw_fairtrees_k19_no_text_of_a_machine_holds : PySem.Challenge.rw_fairtrees_k19_no_text_of_a_machine.Holds := by
  w_on; o_law; k_head; (case hw => w_witness2)
  k_fill
  refine L2.walk_of (l := PySem.Challenge.rw_fairtrees_k19_no_text_of_a_machine) (n := 63) (k := 7) (x := "_law_script") (CX := fun _ => L2.CX0) (sp := fun w => Fx.spLaw _) rfl (by decide) rfl ⟨rfl, by decide, by decide⟩ (fun w h Y => PySem.W.kIn_of Y) ?F (fun _ _ a ns hl _ hS => ⟨a, ns, rfl, hS, hl, fun _ => rfl⟩) (fun _ _ _ _ _ h => h)
  case F =>
    intro w mg fa h KX G hmg
    refine' Fx.all_mk KX G hmg ?a1 ?l1 ?c1 ?k1 ?a2 ?l2 ?c2 ?k2 ?a3 ?l3 ?c3 ?k3 ?a4 ?l4 ?c4 ?k4 ?a5 ?l5 ?c5 ?k5 ?a6 ?l6 ?c6 ?k6 ?a7 ?l7 ?c7 ?k7 ?a8 ?l8 ?c8 ?k8 ?a9 ?l9 ?c9 ?k9 ?a10 ?l10 ?c10 ?k10 ?a11 ?l11 ?c11 ?k11 ?a12 ?l12 ?c12 ?k12 ?a13 ?l13 ?c13 ?k13 ?a14 ?l14 ?c14 ?k14 ?a15 ?l15 ?c15 ?k15 ?a16 ?l16 ?c16 ?k16 ?a17 ?l17 ?c17 ?k17 ?a18 ?l18 ?c18 ?k18 ?a19 ?l19 ?c19 ?k19 ?a20 ?l20 ?c20 ?k20 ?a21 ?l21 ?c21 ?k21 ?a22 ?l22 ?c22 ?k22 ?a23 ?l23 ?c23 ?k23 ?a24 ?l24 ?c24 ?k24 ?a25 ?l25 ?c25 ?k25 ?a26 ?l26 ?c26 ?k26 ?z_ValueError ?z_len ?z_range ?z_isinstance ?z_tuple ?z_bool ?z_int ?z_str ?z_sorted ?z_list ?gWORDS ?lWORDS ?sWORDS ?vWORDS ?gLETTERS ?rLETTERS ?gXNoText ?kXNoText ?bXNoText ?tXNoText ?hXNoText ?gXTreeError ?kXTreeError ?bXTreeError ?tXTreeError ?hXTreeError ?gXNoMachine ?kXNoMachine ?bXNoMachine ?tXNoMachine ?hXNoMachine ?gXNoSaying ?kXNoSaying ?bXNoSaying ?tXNoSaying ?hXNoSaying ?eX ?e1 ?e2 ?e3 ?e4 ?e5 ?e6 ?e7 ?e8 ?eT ?eA ?eB
    (case a1 => k_is); (case l1 => k_is); (case c1 => k_is); (case k1 => k_is); (case a2 => k_is); (case l2 => k_is); (case c2 => k_is); (case k2 => k_is); (case a3 => k_is); (case l3 => k_is); (case c3 => k_is); (case k3 => k_is); (case a4 => k_is); (case l4 => k_is); (case c4 => k_is); (case k4 => k_is); (case a5 => k_is); (case l5 => k_is); (case c5 => k_is); (case k5 => k_is); (case a6 => k_is); (case l6 => k_is); (case c6 => k_is); (case k6 => k_is); (case a7 => k_is); (case l7 => k_is); (case c7 => k_is); (case k7 => k_is); (case a8 => k_is); (case l8 => k_is); (case c8 => k_is); (case k8 => k_is); (case a9 => k_is); (case l9 => k_is); (case c9 => k_is); (case k9 => k_is); (case a10 => k_is); (case l10 => k_is); (case c10 => k_is); (case k10 => k_is); (case a11 => k_is); (case l11 => k_is); (case c11 => k_is); (case k11 => k_is); (case a12 => k_is); (case l12 => k_is); (case c12 => k_is); (case k12 => k_is); (case a13 => k_is); (case l13 => k_is); (case c13 => k_is); (case k13 => k_is); (case a14 => k_is); (case l14 => k_is); (case c14 => k_is); (case k14 => k_is); (case a15 => k_is); (case l15 => k_is); (case c15 => k_is); (case k15 => k_is); (case a16 => k_is); (case l16 => k_is); (case c16 => k_is); (case k16 => k_is); (case a17 => k_is); (case l17 => k_is); (case c17 => k_is); (case k17 => k_is); (case a18 => k_is); (case l18 => k_is); (case c18 => k_is); (case k18 => k_is); (case a19 => k_is); (case l19 => k_is); (case c19 => k_is); (case k19 => k_is); (case a20 => k_is); (case l20 => k_is); (case c20 => k_is); (case k20 => k_is); (case a21 => k_is); (case l21 => k_is); (case c21 => k_is); (case k21 => k_is); (case a22 => k_is); (case l22 => k_is); (case c22 => k_is); (case k22 => k_is); (case a23 => k_is); (case l23 => k_is); (case c23 => k_is); (case k23 => k_is); (case a24 => k_is); (case l24 => k_is); (case c24 => k_is); (case k24 => k_is); (case a25 => k_is); (case l25 => k_is); (case c25 => k_is); (case k25 => k_is); (case a26 => k_is); (case l26 => k_is); (case c26 => k_is); (case k26 => k_is); (case z_ValueError => k_is); (case z_len => k_is); (case z_range => k_is); (case z_isinstance => k_is); (case z_tuple => k_is); (case z_bool => k_is); (case z_int => k_is); (case z_str => k_is); (case z_sorted => k_is); (case z_list => k_is); (case gWORDS => k_is); (case lWORDS => k_is); (case gLETTERS => k_is); (case gXNoText => k_is); (case kXNoText => k_is); (case bXNoText => k_is); (case tXNoText => k_is); (case hXNoText => k_is); (case gXTreeError => k_is); (case kXTreeError => k_is); (case bXTreeError => k_is); (case tXTreeError => k_is); (case hXTreeError => k_is); (case gXNoMachine => k_is); (case kXNoMachine => k_is); (case bXNoMachine => k_is); (case tXNoMachine => k_is); (case hXNoMachine => k_is); (case gXNoSaying => k_is); (case kXNoSaying => k_is); (case bXNoSaying => k_is); (case tXNoSaying => k_is); (case hXNoSaying => k_is)
    (case sWORDS => decide)
    (case vWORDS => repeat (first | exact .nil | refine .cons ⟨_, rfl⟩ ?_))
    (case rLETTERS => exact ⟨_, rfl⟩)
    (case eX => k_exc)
    (case e1 => first | rfl | k_is)
    (case e2 => first | rfl | k_is)
    (case e3 => first | rfl | k_is)
    (case e4 => first | rfl | k_is)
    (case e5 => first | rfl | k_is)
    (case e6 => first | rfl | k_is)
    (case e7 => first | rfl | k_is)
    (case e8 => first | rfl | k_is)
    (case eT => first | rfl | k_is)
    (case eA => first | rfl | k_is)
    (case eB => first | rfl | k_is)