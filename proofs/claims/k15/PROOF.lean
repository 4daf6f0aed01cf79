import PyProof.Rows.All
import Wide.All
import OpenK.AllK
import Wide.FinOn
import HandS.ForMost
import HandS.TupAny
import HandS.TupMul
import HandS.IsInst
import HandS.TupLe
import HandS.DictComp
import HandS.Conv
import HandS.Walk
import HandS.Evl
import KE.GoesMore
import PyProof.Draws
import PyProof.CollectIter
import PyProof.WalksMore
import PyProof.TupleOfSeq
import PyProof.DictMoreH
import HandS.DictTup
import HandS.TupLen
import HandS.Replace
import HandS.ReplaceLit
import KE.KxIndex
import KE.KDictList
import HandS.Defaults
import HandS.MakeKwOnly
import HandS.Deep
import HandS.WordsExc
import HandS.ExcOwn
import HandS.TryOnly
import HandS.ExcIs
import HandS.SetKeys
import HandS.SetBool
import HandS.Style
import HandS.Text
import PySem.Challenge.RW_fairtrees_k15_whole_read_and_told_again
set_option Elab.async false
set_option linter.all false
set_option maxRecDepth 100000
set_option maxHeartbeats 4000000
namespace Fx
open PySem PySem.Spec PyProof.Rows L2
def topS (i : Nat) : Stmt := PySem.Challenge.pw_fairtrees_k15_whole_read_and_told_again.main.body.getD i (.Pass ⟨0, 0, 0, 0⟩)

/-! ### heaps, data, the pool of draws -/
/-- a def of the text as its callers see it -/
structure Cal (P : Program) (w : World) (K : PySem.W.Frag) (mg : Str → Option Value) (base : Heap) (k : Nat) (x : Str) (ps : List Str) (sp : Sp) where
  f : Addr
  fd : FuncData
  G : FnOk P w K mg base CX0 k f fd ps sp
  g : mg x = some (.ref f)
  kp : PySem.W.keepIn K (.ref f) = true
  b : Binds K fd ps []
theorem same_upd {H : Hp} {p : Addr} {o : HO} (h : H p = none) : Same H (upd H p o) := fun b x e => by
  rw [upd_ne (ne_of_none e h)]
  exact e
/-- an object that H does not know may change -/
theorem smut {H H' : Hp} {p : Addr} {o : HO} (e : Same H H') (h : H p = none) : Same H (upd H' p o) := fun a u ha => by
  rw [upd_ne (ne_of_none ha h)]
  exact e a u ha
/-- all tuples stand -/
def Imm (H H' : Hp) : Prop := ∀ a xs, Rd H a (.tup xs) → Rd H' a (.tup xs)
theorem Imm.refl (H : Hp) : Imm H H := fun _ _ h => h
theorem Imm.trans {H H1 H2 : Hp} (a : Imm H H1) (b : Imm H1 H2) : Imm H H2 := fun x xs h => b x xs (a x xs h)
theorem simm {H H' : Hp} (e : Same H H') : Imm H H' := fun a xs h => by
  rcases h with h | ⟨o, h⟩
  · exact .inl (e _ _ h)
  · exact .inr ⟨o, e _ _ h⟩
theorem Imm.sq {K : PySem.W.Frag} {H H' : Hp} {a : Addr} {xs : List V} (e : Imm H H') (h : SqT K H a xs) : SqT K H' a xs := by
  rcases h with h | h
  · exact .inl (e _ _ h)
  · exact .inr h
theorem ssqt {K : PySem.W.Frag} {H H' : Hp} {a : Addr} {xs : List V} (e : Same H H') (h : SqT K H a xs) : SqT K H' a xs := (simm e).sq h
/-- a list that changes is no tuple -/
theorem Imm.list {H : Hp} {p : Addr} {xs : List V} {o : HO} (h : H p = some (.lst xs)) : Imm H (upd H p o) := fun a ys e => by
  rcases e with e | ⟨u, e⟩
  · exact .inl (by rw [upd_ne (ne_of h e (by intro q; cases q)).symm]; exact e)
  · exact .inr ⟨u, by rw [upd_ne (ne_of h e (by intro q; cases q)).symm]; exact e⟩
theorem Imm.new {H : Hp} {p : Addr} {o : HO} (h : H p = none) : Imm H (upd H p o) := simm (same_upd h)
/-- a list of addresses, each a tuple of such things -/
inductive Each {α : Type} (R : Addr → α → Prop) : List Addr → List α → Prop where
  | nil : Each R [] []
  | cons {a : Addr} {as : List Addr} {x : α} {xs : List α} (h : R a x) (t : Each R as xs) : Each R (a :: as) (x :: xs)
theorem Each.imp {α : Type} {R S : Addr → α → Prop} (f : ∀ a x, R a x → S a x) : ∀ {as : List Addr} {xs : List α}, Each R as xs → Each S as xs
  | _, _, .nil => .nil
  | _, _, .cons h t => .cons (f _ _ h) (t.imp f)
theorem Each.len {α : Type} {R : Addr → α → Prop} : ∀ {as : List Addr} {xs : List α}, Each R as xs → as.length = xs.length
  | _, _, .nil => rfl
  | _, _, .cons _ t => by rw [List.length_cons, List.length_cons, t.len]
theorem Each.get {α : Type} {R : Addr → α → Prop} : ∀ {as : List Addr} {xs : List α} {i : Nat} {a : Addr}, Each R as xs → as[i]? = some a → ∃ x, xs[i]? = some x ∧ R a x
  | _, _, _, _, .nil, h => by simp at h
  | _, _, 0, _, .cons (x := x) r _, h => by
    have e := Option.some.inj h
    subst e
    exact ⟨x, rfl, r⟩
  | _, _, i + 1, _, .cons _ t, h => by
    obtain ⟨x, h1, h2⟩ := t.get (i := i) (by simpa using h)
    exact ⟨x, by simpa using h1, h2⟩
theorem Each.getx {α : Type} {R : Addr → α → Prop} : ∀ {as : List Addr} {xs : List α} {i : Nat} {x : α}, Each R as xs → xs[i]? = some x → ∃ a, as[i]? = some a ∧ R a x
  | _, _, _, _, .nil, h => by simp at h
  | _, _, 0, _, .cons (a := a) r _, h => by
    have e := Option.some.inj h
    subst e
    exact ⟨a, rfl, r⟩
  | _, _, i + 1, _, .cons _ t, h => by
    obtain ⟨x, h1, h2⟩ := t.getx (i := i) (by simpa using h)
    exact ⟨x, by simpa using h1, h2⟩
theorem Each.snoc {α : Type} {R : Addr → α → Prop} {a : Addr} {x : α} (r : R a x) : ∀ {as : List Addr} {xs : List α}, Each R as xs → Each R (as ++ [a]) (xs ++ [x])
  | _, _, .nil => .cons r .nil
  | _, _, .cons h t => .cons h (t.snoc r)
theorem map_get {α : Type} {f : α → V} {xs : List α} {i : Nat} {v : V} (h : (xs.map f)[i]? = some v) : ∃ x, xs[i]? = some x ∧ v = f x := by
  rw [List.getElem?_map] at h
  cases e : xs[i]? with
  | none =>
    rw [e] at h
    cases h
  | some x =>
    rw [e] at h
    exact ⟨x, rfl, (Option.some.inj h).symm⟩
theorem get_map {α : Type} {f : α → V} {xs : List α} {i : Nat} {x : α} (h : xs[i]? = some x) : (xs.map f)[i]? = some (f x) := by
  rw [List.getElem?_map, h]
  rfl
theorem notdec {p : Prop} [Decidable p] (h : (!decide p) = true) : ¬ p := by simpa using h
theorem dec_of {p : Prop} [Decidable p] (h : ¬ ((!decide p) = true)) : p := by simpa using h
theorem ixN_nat {n j : Nat} (hj : j < n) : ixN n (j : Int) = some j := by
  unfold ixN
  rw [if_pos (by omega), if_pos (by omega)]
  simp
theorem ixN0 {n : Nat} (h : 0 < n) : ixN n 0 = some 0 := ixN_nat (j := 0) h
theorem six0 {n : Nat} (h : 0 < n) : seqIndex? 0 n = some 0 := by
  unfold seqIndex?
  simp
  omega
theorem szOk {n : Nat} (h : n ≤ 100000) : n ≤ sizeLine := Nat.le_trans h (by decide)
theorem szLt {n : Nat} (h : n < 100000) : n < sizeLine := Nat.lt_of_lt_of_le h (by decide)
theorem ty_sqt {K : PySem.W.Frag} {H : Hp} {a : Addr} {xs : List V} (h : SqT K H a xs) : TyX K H (.ref a) (.type "tuple") := by
  rcases h with (h | ⟨o, h⟩) | ⟨o, its, n, hk, hc, _⟩
  · exact .base (.tup h)
  · exact .fTuple h
  · exact .kTuple hk hc
/-- the pool's addresses: itself, its great numbers, its small ones -/
structure PA where
  p : Addr
  g : Addr
  s : Addr
def Off (a : PA) (b : Addr) : Prop := b ≠ a.p ∧ b ≠ a.g ∧ b ≠ a.s
structure Pool (H : Hp) (a : PA) (c : Nat) : Prop where
  ex : ∃ (gs ss : List Int) (st ct : Int), H a.p = some (.lst [.ref a.g, .ref a.s, .int st, .int ct]) ∧ H a.g = some (.lst (gs.map V.int)) ∧ H a.s = some (.lst (ss.map V.int)) ∧
    gs.length ≤ 63 ∧ ss.length ≤ 63 ∧ 0 ≤ st ∧ st < 2147483647 ∧ 0 ≤ ct ∧ ct ≤ c ∧ a.s ≠ a.g
/-- all but the pool stands -/
def Kp (a : PA) (H H' : Hp) : Prop := ∀ b o, H b = some o → Off a b → H' b = some o
theorem Kp.refl {a : PA} (H : Hp) : Kp a H H := fun _ _ h _ => h
theorem Kp.trans {a : PA} {H H1 H2 : Hp} (x : Kp a H H1) (y : Kp a H1 H2) : Kp a H H2 := fun c o h n => y c o (x c o h n) n
theorem skp {a : PA} {H H' : Hp} (s : Same H H') : Kp a H H' := fun b o h _ => s b o h
theorem Kp.mut {a : PA} {H H' : Hp} {q : Addr} {o : HO} (e : Kp a H H') (h : H q = none) : Kp a H (upd H' q o) := fun b u hb n => by
  rw [upd_ne (ne_of_none hb h)]
  exact e b u hb n
theorem Kp.free {a : PA} {H H' : Hp} {l : Addr} (k : Kp a H H') (h : H' l = none) (n : Off a l) : H l = none := by
  cases e : H l with
  | none => rfl
  | some o =>
    rw [k l o e n] at h
    cases h
theorem Pool.mono {H : Hp} {a : PA} {c c' : Nat} (P : Pool H a c) (h : c ≤ c') : Pool H a c' := by
  obtain ⟨gs, ss, st, ct, a1, a2, a3, a4, a5, a6, a7, a8, a9, a10⟩ := P.ex
  exact ⟨gs, ss, st, ct, a1, a2, a3, a4, a5, a6, a7, a8, by omega, a10⟩
theorem Pool.same {H H' : Hp} {a : PA} {c : Nat} (P : Pool H a c) (e : Same H H') : Pool H' a c := by
  obtain ⟨gs, ss, st, ct, a1, a2, a3, a4, a5, a6, a7, a8, a9, a10⟩ := P.ex
  exact ⟨gs, ss, st, ct, e _ _ a1, e _ _ a2, e _ _ a3, a4, a5, a6, a7, a8, a9, a10⟩
theorem Pool.off {H : Hp} {a : PA} {b : Addr} {c : Nat} (P : Pool H a c) (h : H b = none) : Off a b := by
  obtain ⟨gs, ss, st, ct, a1, a2, a3, a4, a5, a6, a7, a8, a9, a10⟩ := P.ex
  exact ⟨(ne_of_none a1 h).symm, (ne_of_none a2 h).symm, (ne_of_none a3 h).symm⟩
/-- what is no list is none of the pool's -/
theorem Pool.offo {H : Hp} {a : PA} {b : Addr} {c : Nat} {o : HO} (P : Pool H a c) (h : H b = some o) (n : ∀ xs, o ≠ .lst xs) : Off a b := by
  obtain ⟨gs, ss, st, ct, a1, a2, a3, a4, a5, a6, a7, a8, a9, a10⟩ := P.ex
  exact ⟨(ne_of a1 h (n _).symm).symm, (ne_of a2 h (n _).symm).symm, (ne_of a3 h (n _).symm).symm⟩
theorem Pool.imm {H H' : Hp} {a : PA} {c : Nat} (P : Pool H a c) (k : Kp a H H') : Imm H H' := fun b xs h => by
  rcases h with h | ⟨o, h⟩
  · exact .inl (k _ _ h (P.offo h fun _ q => by cases q))
  · exact .inr ⟨o, k _ _ h (P.offo h fun _ q => by cases q)⟩
/-- an object beside the pool is laid or changed -/
theorem Pool.upd {H : Hp} {a : PA} {b : Addr} {c : Nat} {o : HO} (P : Pool H a c) (n : Off a b) : Pool (upd H b o) a c := by
  obtain ⟨gs, ss, st, ct, a1, a2, a3, a4, a5, a6, a7, a8, a9, a10⟩ := P.ex
  exact ⟨gs, ss, st, ct, by rw [upd_ne n.1.symm]; exact a1, by rw [upd_ne n.2.1.symm]; exact a2, by rw [upd_ne n.2.2.symm]; exact a3, a4, a5, a6, a7, a8, a9, a10⟩
/-! ### rules within a comprehension's block: the written part by its name -/
section
variable {X : Cx}
theorem ixL (K : PySem.W.Frag) (h : X.K = K := by rfl) : IxR X (rIxL K) := by subst h; exact ix_list
theorem ixT (K : PySem.W.Frag) (h : X.K = K := by rfl) : IxR X (rIxT K) := by subst h; exact ix_tup
theorem inS (K : PySem.W.Frag) (h : X.K = K := by rfl) : OpR X (compareOp .In) (rIn K false) := by subst h; exact op_in_seq
theorem ninS (K : PySem.W.Frag) (h : X.K = K := by rfl) : OpR X (compareOp .NotIn) (rIn K true) := by subst h; exact op_notIn_seq
theorem lenS (K : PySem.W.Frag) (h : X.K = K := by rfl) : CallR X (.builtin "len") (fun xs H Q => ∃ p ys, xs = [.ref p] ∧ (SqL K H p ys ∨ SqT K H p ys) ∧ Q (.int ys.length) H) := by subst h; exact call_len_seq
theorem isiK (K : PySem.W.Frag) (h : X.K = K := by rfl) : CallR X (.builtin "isinstance") (rIsi K) := by subst h; exact call_isi
theorem tupOf (K : PySem.W.Frag) (h : X.K = K := by rfl) : CallR X (.type "tuple") (fun xs H Q => ∃ p ys, xs = [.ref p] ∧ ((SqL K H p ys ∧ ∀ l, H l = none → Q (.ref l) (upd H l (.tup ys))) ∨ (SqT K H p ys ∧ Q (.ref p) H))) := by subst h; exact call_tuple_of
theorem slL (K : PySem.W.Frag) (h : X.K = K := by rfl) : SlR X (rSlL K) := by subst h; exact sl_list
theorem slA (K : PySem.W.Frag) (h : X.K = K := by rfl) : SlR X (rSlA K) := by subst h; exact sl_tupA
theorem catA (K : PySem.W.Frag) (h : X.K = K := by rfl) : OpR X (binaryOp .Add) (rCatA K) := by subst h; exact op_catA
theorem sortS (K : PySem.W.Frag) (h : X.K = K := by rfl) : CallR X (.builtin "sorted") (rSortedS K) := by subst h; exact cr_sortedS
theorem sortI (K : PySem.W.Frag) (h : X.K = K := by rfl) : CallR X (.builtin "sorted") (rSorted K) := by subst h; exact cr_sorted
end
/-! ### comprehensions: what holds of the list so far -/
section
variable {K : PySem.W.Frag}
/-- over a range, its turns drawing from the pool (k draws a turn) -/
theorem lc_rangeP {lo : Int} {n j : Nat} {tt : TT} {te : TE} {vs : List Nat} {σ : L2.St} {H1 : Hp} {D : Addr} {Qd : Hp → Prop} {a : PA} {c0 : Nat} (k : Nat) (ok : Nat → List V → Prop)
    (P0 : Pool H1 a c0) (hD : H1 D = none) (hn : n ≤ 100000) (h0 : ok 0 []) (hw : ∀ x, wipe ((wipe σ vs).set j (some x)) vs = wipe σ vs)
    (turn : ∀ (i : Nat) (H : Hp) (acc : List V), i < n → Pool H a (c0 + i * k) → Kp a H1 H → ok i acc → acc.length ≤ i → ∀ (N1 : V → Hp → Prop) (N2 : Hp → Prop),
      (∀ y H', Pool H' a (c0 + i * k + k) → Kp a H H' → ok (i + 1) (acc ++ [y]) → N1 y H') → (∀ H', Pool H' a (c0 + i * k + k) → Kp a H H' → ok (i + 1) acc → N2 H') →
      tt ((wipe σ vs).set j (some (.int (lo + i)))) H fun b H3 => if b = true then te ((wipe σ vs).set j (some (.int (lo + i)))) H3 N1 else N2 H3)
    (done : ∀ (H : Hp) (acc : List V), Pool H a (c0 + n * k) → Kp a H1 H → H D = some (.lst acc) → acc.length ≤ n → ok n acc → Off a D → Qd H) :
    ∃ W : Nat → Nat → Hp → Prop, (∃ m, W 0 m (upd H1 D (.lst []))) ∧ ∀ i m H, W i m H →
      ((Itr lo n).stop i H ∧ Qd H) ∨ ((Itr lo n).go i H ∧ ∃ Nx : Hp → Prop, (∀ H', Nx H' → ∃ m', m' < m ∧ W (i + 1) m' H') ∧ ∀ x H', (Itr lo n).yld i H x H' → (gName j) x (wipe σ vs) H' fun σ2 H2 => wipe σ2 vs = wipe σ vs ∧ tt σ2 H2 fun b H3 =>
        if b = true then te σ2 H3 fun y H4 => ∃ acc, H4 D = some (.lst acc) ∧ acc.length < sizeLine ∧ Nx (upd H4 D (.lst (acc ++ [y]))) else Nx H3) := by
  have oD : Off a D := P0.off hD
  refine lc_range (lo := lo) (n := n) (fun i H => ∃ acc, Pool H a (c0 + i * k) ∧ Kp a H1 H ∧ H D = some (.lst acc) ∧ acc.length ≤ i ∧ ok i acc) ⟨[], ?_, skp (same_upd hD), upd_same, Nat.le_refl _, h0⟩ (fun i H hi p => ?_) (fun H p => ?_)
  · rw [Nat.zero_mul]
    exact P0.upd oD
  · obtain ⟨acc, p1, p2, p3, p4, p5⟩ := p
    refine ⟨hw _, turn i H acc hi p1 p2 p5 p4 _ _ (fun y H' q1 q2 q3 => ⟨acc, q2 _ _ p3 oD, szLt (by omega), acc ++ [y], ?_, ?_, upd_same, ?_, q3⟩) (fun H' q1 q2 q3 => ⟨acc, ?_, p2.trans q2, q2 _ _ p3 oD, by omega, q3⟩)⟩
    · rw [Nat.succ_mul, ← Nat.add_assoc]
      exact q1.upd oD
    · exact Kp.mut (p2.trans q2) hD
    · rw [List.length_append]
      show acc.length + 1 ≤ i + 1
      omega
    · rw [Nat.succ_mul, ← Nat.add_assoc]
      exact q1
  · obtain ⟨acc, p1, p2, p3, p4, p5⟩ := p
    exact done H acc p1 p2 p3 p4 p5 oD
/-- over a walked thing, its turns changing nothing that stood -/
theorem lc_rangeS {lo : Int} {n j : Nat} {tt : TT} {te : TE} {vs : List Nat} {σ : L2.St} {H1 : Hp} {D : Addr} {Qd : Hp → Prop} (ok : Nat → List V → Prop)
    (hD : H1 D = none) (hn : n ≤ 100000) (h0 : ok 0 []) (hw : ∀ x, wipe ((wipe σ vs).set j (some x)) vs = wipe σ vs)
    (turn : ∀ (i : Nat) (H : Hp) (acc : List V), i < n → Same H1 H → ok i acc → acc.length ≤ i → ∀ (N1 : V → Hp → Prop) (N2 : Hp → Prop),
      (∀ y H', Same H H' → ok (i + 1) (acc ++ [y]) → N1 y H') → (∀ H', Same H H' → ok (i + 1) acc → N2 H') →
      tt ((wipe σ vs).set j (some (.int (lo + i)))) H fun b H3 => if b = true then te ((wipe σ vs).set j (some (.int (lo + i)))) H3 N1 else N2 H3)
    (done : ∀ (H : Hp) (acc : List V), Same H1 H → H D = some (.lst acc) → acc.length ≤ n → ok n acc → Qd H) :
    ∃ W : Nat → Nat → Hp → Prop, (∃ m, W 0 m (upd H1 D (.lst []))) ∧ ∀ i m H, W i m H →
      ((Itr lo n).stop i H ∧ Qd H) ∨ ((Itr lo n).go i H ∧ ∃ Nx : Hp → Prop, (∀ H', Nx H' → ∃ m', m' < m ∧ W (i + 1) m' H') ∧ ∀ x H', (Itr lo n).yld i H x H' → (gName j) x (wipe σ vs) H' fun σ2 H2 => wipe σ2 vs = wipe σ vs ∧ tt σ2 H2 fun b H3 =>
        if b = true then te σ2 H3 fun y H4 => ∃ acc, H4 D = some (.lst acc) ∧ acc.length < sizeLine ∧ Nx (upd H4 D (.lst (acc ++ [y]))) else Nx H3) := by
  refine lc_range (lo := lo) (n := n) (fun i H => ∃ acc, Same H1 H ∧ H D = some (.lst acc) ∧ acc.length ≤ i ∧ ok i acc) ⟨[], same_upd hD, upd_same, Nat.le_refl _, h0⟩ (fun i H hi p => ?_) (fun H p => ?_)
  · obtain ⟨acc, p2, p3, p4, p5⟩ := p
    refine ⟨hw _, turn i H acc hi p2 p5 p4 _ _ (fun y H' q2 q3 => ⟨acc, q2 _ _ p3, szLt (by omega), acc ++ [y], smut (p2.trans q2) hD, upd_same, ?_, q3⟩) (fun H' q2 q3 => ⟨acc, p2.trans q2, q2 _ _ p3, by omega, q3⟩)⟩
    rw [List.length_append]
    show acc.length + 1 ≤ i + 1
    omega
  · obtain ⟨acc, p2, p3, p4, p5⟩ := p
    exact done H acc p2 p3 p4 p5
theorem lc_listS {a : Addr} {xs : List V} {j : Nat} {tt : TT} {te : TE} {vs : List Nat} {σ : L2.St} {H1 : Hp} {D : Addr} {Qd : Hp → Prop} (ok : Nat → List V → Prop)
    (hx : SqL K H1 a xs) (hD : H1 D = none) (hn : xs.length ≤ 100000) (h0 : ok 0 []) (hw : ∀ x, wipe ((wipe σ vs).set j (some x)) vs = wipe σ vs)
    (turn : ∀ (i : Nat) (x : V) (H : Hp) (acc : List V), xs[i]? = some x → Same H1 H → ok i acc → acc.length ≤ i → ∀ (N1 : V → Hp → Prop) (N2 : Hp → Prop),
      (∀ y H', Same H H' → ok (i + 1) (acc ++ [y]) → N1 y H') → (∀ H', Same H H' → ok (i + 1) acc → N2 H') →
      tt ((wipe σ vs).set j (some x)) H fun b H3 => if b = true then te ((wipe σ vs).set j (some x)) H3 N1 else N2 H3)
    (done : ∀ (H : Hp) (acc : List V), Same H1 H → H D = some (.lst acc) → acc.length ≤ xs.length → ok xs.length acc → Qd H) :
    ∃ W : Nat → Nat → Hp → Prop, (∃ m, W 0 m (upd H1 D (.lst []))) ∧ ∀ i m H, W i m H →
      ((Itl K a).stop i H ∧ Qd H) ∨ ((Itl K a).go i H ∧ ∃ Nx : Hp → Prop, (∀ H', Nx H' → ∃ m', m' < m ∧ W (i + 1) m' H') ∧ ∀ x H', (Itl K a).yld i H x H' → (gName j) x (wipe σ vs) H' fun σ2 H2 => wipe σ2 vs = wipe σ vs ∧ tt σ2 H2 fun b H3 =>
        if b = true then te σ2 H3 fun y H4 => ∃ acc, H4 D = some (.lst acc) ∧ acc.length < sizeLine ∧ Nx (upd H4 D (.lst (acc ++ [y]))) else Nx H3) := by
  refine lc_list (xs := xs) (fun i H => ∃ acc, Same H1 H ∧ H D = some (.lst acc) ∧ acc.length ≤ i ∧ ok i acc) ⟨[], same_upd hD, upd_same, Nat.le_refl _, h0⟩ (fun i H _ p => ?_) (fun i x H hi p => ?_) (fun H p => ?_)
  · obtain ⟨acc, p2, _⟩ := p
    exact p2.seq hx
  · obtain ⟨acc, p2, p3, p4, p5⟩ := p
    have hil : i < xs.length := (List.getElem?_eq_some_iff.mp hi).1
    refine ⟨hw _, turn i x H acc hi p2 p5 p4 _ _ (fun y H' q2 q3 => ⟨acc, q2 _ _ p3, szLt (by omega), acc ++ [y], smut (p2.trans q2) hD, upd_same, ?_, q3⟩) (fun H' q2 q3 => ⟨acc, p2.trans q2, q2 _ _ p3, by omega, q3⟩)⟩
    rw [List.length_append]
    show acc.length + 1 ≤ i + 1
    omega
  · obtain ⟨acc, p2, p3, p4, p5⟩ := p
    exact done H acc p2 p3 p4 p5
theorem lc_tupS {a : Addr} {xs : List V} {j : Nat} {tt : TT} {te : TE} {vs : List Nat} {σ : L2.St} {H1 : Hp} {D : Addr} {Qd : Hp → Prop} (ok : Nat → List V → Prop)
    (hx : SqT K H1 a xs) (hD : H1 D = none) (hn : xs.length ≤ 100000) (h0 : ok 0 []) (hw : ∀ x, wipe ((wipe σ vs).set j (some x)) vs = wipe σ vs)
    (turn : ∀ (i : Nat) (x : V) (H : Hp) (acc : List V), xs[i]? = some x → Same H1 H → ok i acc → acc.length ≤ i → ∀ (N1 : V → Hp → Prop) (N2 : Hp → Prop),
      (∀ y H', Same H H' → ok (i + 1) (acc ++ [y]) → N1 y H') → (∀ H', Same H H' → ok (i + 1) acc → N2 H') →
      tt ((wipe σ vs).set j (some x)) H fun b H3 => if b = true then te ((wipe σ vs).set j (some x)) H3 N1 else N2 H3)
    (done : ∀ (H : Hp) (acc : List V), Same H1 H → H D = some (.lst acc) → acc.length ≤ xs.length → ok xs.length acc → Qd H) :
    ∃ W : Nat → Nat → Hp → Prop, (∃ m, W 0 m (upd H1 D (.lst []))) ∧ ∀ i m H, W i m H →
      ((Itt K a).stop i H ∧ Qd H) ∨ ((Itt K a).go i H ∧ ∃ Nx : Hp → Prop, (∀ H', Nx H' → ∃ m', m' < m ∧ W (i + 1) m' H') ∧ ∀ x H', (Itt K a).yld i H x H' → (gName j) x (wipe σ vs) H' fun σ2 H2 => wipe σ2 vs = wipe σ vs ∧ tt σ2 H2 fun b H3 =>
        if b = true then te σ2 H3 fun y H4 => ∃ acc, H4 D = some (.lst acc) ∧ acc.length < sizeLine ∧ Nx (upd H4 D (.lst (acc ++ [y]))) else Nx H3) := by
  refine lc_tup (xs := xs) (fun i H => ∃ acc, Same H1 H ∧ H D = some (.lst acc) ∧ acc.length ≤ i ∧ ok i acc) ⟨[], same_upd hD, upd_same, Nat.le_refl _, h0⟩ (fun i H _ p => ?_) (fun i x H hi p => ?_) (fun H p => ?_)
  · obtain ⟨acc, p2, _⟩ := p
    exact ssqt p2 hx
  · obtain ⟨acc, p2, p3, p4, p5⟩ := p
    have hil : i < xs.length := (List.getElem?_eq_some_iff.mp hi).1
    refine ⟨hw _, turn i x H acc hi p2 p5 p4 _ _ (fun y H' q2 q3 => ⟨acc, q2 _ _ p3, szLt (by omega), acc ++ [y], smut (p2.trans q2) hD, upd_same, ?_, q3⟩) (fun H' q2 q3 => ⟨acc, p2.trans q2, q2 _ _ p3, by omega, q3⟩)⟩
    rw [List.length_append]
    show acc.length + 1 ≤ i + 1
    omega
  · obtain ⟨acc, p2, p3, p4, p5⟩ := p
    exact done H acc p2 p3 p4 p5
end

/-- what the top leaves of the names that the text reads -/
structure Bi (mg : Str → Option Value) : Prop where
  ValueError : mg "ValueError" = none
  tuple : mg "tuple" = none
  range : mg "range" = none
  isinstance : mg "isinstance" = none
  bool : mg "bool" = none
  int : mg "int" = none
  str : mg "str" = none
  len : mg "len" = none
  list : mg "list" = none
  min : mg "min" = none
  sum : mg "sum" = none

/-! ### _law_pool, _law_draw -/
abbrev s_law_pool : Stmt := topS 22
theorem sc_law_pool : FnScope ["_law_script", "_law_great", "_law_cell"] ["_law_script"] (defScope s_law_pool) := ⟨rfl, rfl, rfl, by decide +kernel, rfl, by decide +kernel, by decide +kernel⟩
abbrev s_law_draw : Stmt := topS 23
theorem sc_law_draw : FnScope ["_law_pool_here", "_law_many", "_law_cell"] ["_law_pool_here", "_law_many"] (defScope s_law_draw) := ⟨rfl, rfl, rfl, by decide +kernel, rfl, by decide +kernel, by decide +kernel⟩
section
variable {P : Program} {w : World} {K : PySem.W.Frag} {mg : Str → Option Value} {base : Heap}
def spPool (K : PySem.W.Frag) : Sp := fun vs H Q _ => ∃ (l : Addr) (ns : List Int), vs = [.ref l] ∧ SqL K H l (ns.map V.int) ∧ ns.length ≤ 63 ∧ ∀ H' a, Same H H' → Pool H' a 0 → Q (.ref a.p) H'
theorem ok_pool {f : Addr} {fd : FuncData} (F : Fun K "_law_pool" "_law_pool" s_law_pool f fd) : FnOk P w K mg base CX0 1 f fd ["_law_script"] (spPool K) := by
  refine F.ok sc_law_pool (fun vs H Q E h => ?_) (fun cdv A outer s H vs Q E hr h => ?_)
  · obtain ⟨l, ns, rfl, _⟩ := h
    rfl
  · obtain ⟨l, ns, rfl, hS, hlen, q⟩ := h
    refine ⟨_, (pss_cons (ps_setLc (i := 1) (own := [("_law_cell", 2)]) (g := gName 2) (by rfl) sc_law_pool.nd rfl rfl (sw_true rfl rfl rfl (by decide +kernel)) (pi_list (pv 0)) (blkOk_by (own := [("_law_cell", 2)]) (N := ["_law_script", "_law_great", "_law_cell"]) (sc := defScope s_law_pool) (by decide +kernel)) (fun _ _ _ _ _ => (pg_name (i := 2) sc_law_pool.nd rfl (.inl rfl))) (fun _ _ _ _ _ => (pts_one (pt_cmpR op_ge (pv 2) (pe_op op_pow pe_int pe_int) (nomark _)))) (fun _ _ _ _ _ => (pv 2)))
      (pss_one (ps_ret (pe_lst (pa_cons (pv 1) (pa_cons (pe_lc (own := [("_law_cell", 2)]) (g := gName 2) rfl sc_law_pool.nd (pi_list (pv 0)) (blkOk_by (own := [("_law_cell", 2)]) (N := ["_law_script", "_law_great", "_law_cell"]) (sc := defScope s_law_pool) (by decide +kernel)) (fun _ _ _ _ _ => (pg_name (i := 2) sc_law_pool.nd rfl (.inl rfl))) (fun _ _ _ _ _ => (pts_one (pt_cmpR op_lt (pv 2) (pe_op op_pow pe_int pe_int) (nomark _)))) (fun _ _ _ _ _ => (pv 2))) (pa_cons pe_int (pa_cons pe_int pa_nil)))))))), ?_⟩
    refine ⟨_, rfl, l, rfl, ⟨_, hS⟩, fun D hD => lc_listS (K := K) (a := l) (xs := ns.map V.int) (fun i acc => ∃ gs : List Int, acc = gs.map V.int) hS hD (by rw [List.length_map]; omega) ⟨[], rfl⟩ (fun _ => rfl) ?_ ?_⟩
    · intro i x H1 acc hx s1 ⟨gs, hg⟩ _ N1 N2 k1 k2
      obtain ⟨z, hz, rfl⟩ := map_get hx
      refine ⟨_, rfl, _, _, rfl, rfl, ⟨by decide, by decide, by decide⟩, _, _, rfl, rfl, _, rfl, ite2 (fun e => ?_) (fun e => ?_)⟩
      · exact ⟨_, rfl, k1 _ _ (Same.refl _) ⟨gs ++ [z], by rw [hg, List.map_append]; rfl⟩⟩
      · exact k2 _ (Same.refl _) ⟨gs, hg⟩
    · intro H1 acc s1 hD1 la ⟨gs, hg⟩
      subst hg
      have hS1 : SqL K H1 l (ns.map V.int) := s1.seq hS
      refine ⟨_, rfl, _, rfl, l, rfl, ⟨_, hS1⟩, fun D2 hD2 => lc_listS (K := K) (a := l) (xs := ns.map V.int) (fun i acc => ∃ gs : List Int, acc = gs.map V.int) hS1 hD2 (by rw [List.length_map]; omega) ⟨[], rfl⟩ (fun _ => rfl) ?_ ?_⟩
      · intro i x H2 acc hx s2 ⟨gs, hg⟩ _ N1 N2 k1 k2
        obtain ⟨z, hz, rfl⟩ := map_get hx
        refine ⟨_, rfl, _, _, rfl, rfl, ⟨by decide, by decide, by decide⟩, _, _, rfl, rfl, _, rfl, ite2 (fun e => ?_) (fun e => ?_)⟩
        · exact ⟨_, rfl, k1 _ _ (Same.refl _) ⟨gs ++ [z], by rw [hg, List.map_append]; rfl⟩⟩
        · exact k2 _ (Same.refl _) ⟨gs, hg⟩
      · intro H2 acc s2 hD2' la2 ⟨ss, hs⟩
        subst hs
        refine ⟨by show 4 ≤ sizeLine; decide, fun p hp => q _ ⟨p, D, D2⟩ ((s1.trans s2).trans (same_upd hp)) ⟨gs, ss, 5, 0, upd_same, ?_, ?_, ?_, ?_, by decide, by decide, by decide, by decide, ?_⟩⟩
        · show upd H2 p _ D = _
          rw [upd_ne (ne_of_none (s2 _ _ hD1) hp)]
          exact s2 _ _ hD1
        · show upd H2 p _ D2 = _
          rw [upd_ne (ne_of_none hD2' hp)]
          exact hD2'
        · rw [List.length_map, List.length_map] at la
          omega
        · rw [List.length_map, List.length_map] at la2
          omega
        · exact (ne_of_none hD1 hD2).symm
def spDraw : Sp := fun vs H Q _ => ∃ (a : PA) (c : Nat) (m : Int), vs = [.ref a.p, .int m] ∧ Pool H a c ∧ c < 1000000 ∧ 0 < m ∧ m < 1073741824 ∧
  ∀ H' r, 0 ≤ r → r < m → Pool H' a (c + 1) → Kp a H H' → Q (.int r) H'
theorem ok_draw {f : Addr} {fd : FuncData} (F : Fun K "_law_draw" "_law_draw" s_law_draw f fd) (T : Bi mg) : FnOk P w K mg base CX0 1 f fd ["_law_pool_here", "_law_many"] spDraw := by
  refine F.ok sc_law_draw (fun vs H Q E h => ?_) (fun cdv A outer s H vs Q E hr h => ?_)
  · obtain ⟨a, c, m, rfl, _⟩ := h
    rfl
  · obtain ⟨⟨p, g, s⟩, c, m, rfl, PP, hc, hm0, hm1, q⟩ := h
    obtain ⟨gs, ss, st, ct, a1, a2, a3, a4, a5, a6, a7, a8, a9, a10⟩ := PP.ex
    have npg : p ≠ g := ne_of a1 a2 (by intro q; have := HO.lst.inj q; cases gs <;> cases this)
    have nps : p ≠ s := ne_of a1 a3 (by intro q; have := HO.lst.inj q; cases ss <;> cases this)
    refine ⟨_, (pss_cons (ps_if (pt_cmpR op_gt (pe_callB call_len_seq (by rfl) T.len PySem.boot_len (pa_cons (pe_ix ix_list (pv 0) pe_int (fun _ _ => rfl)) pa_nil)) pe_int (nomark _))
        (pss_cons (ps_set (i := 2) sc_law_draw.nd rfl (.inl rfl) (pe_ix ix_list (pe_ix ix_list (pv 0) pe_int (fun _ _ => rfl)) pe_int (fun _ _ => rfl)))
        (pss_cons (ps_asg (pe_op op_fdiv (pv 2) (pv 1)) (pg_sub (pe_ix ix_list (pv 0) pe_int (fun _ _ => rfl)) pe_int set_list))
        (pss_cons (ps_if (pt_cmpR op_eq (pe_op op_fdiv (pv 2) (pv 1)) pe_int (nomark _))
          (pss_one (ps_expr (pe_bm PySem.F.plainAttrs_list PySem.F.slot_list_pop PySem.F.type_list_pop mt_popAt (pe_ix ix_list (pv 0) pe_int (fun _ _ => rfl)) (pa_cons pe_int pa_nil))))
          pss_nil)
        (pss_one (ps_ret (pe_op op_mod (pv 2) (pv 1)))))))
        pss_nil)
      (pss_cons (ps_asg (pe_op op_add (pe_ix ix_list (pv 0) pe_int (fun _ _ => rfl)) pe_int) (pg_sub (pv 0) pe_int set_list))
      (pss_cons (ps_set (i := 2) sc_law_draw.nd rfl (.inl rfl) pe_int)
      (pss_cons (ps_if (pt_cmpR op_gt (pe_callB call_len_seq (by rfl) T.len PySem.boot_len (pa_cons (pe_ix ix_list (pv 0) pe_int (fun _ _ => rfl)) pa_nil)) pe_int (nomark _))
        (pss_one (ps_set (i := 2) sc_law_draw.nd rfl (.inl rfl) (pe_ix ix_list (pe_ix ix_list (pv 0) pe_int (fun _ _ => rfl)) (pe_op op_mod (pe_ix ix_list (pv 0) pe_int (fun _ _ => rfl)) (pe_callB call_len_seq (by rfl) T.len PySem.boot_len (pa_cons (pe_ix ix_list (pv 0) pe_int (fun _ _ => rfl)) pa_nil))) (fun _ _ => rfl))))
        pss_nil)
      (pss_cons (ps_set (i := 2) sc_law_draw.nd rfl (.inl rfl) (pe_op op_mul (pe_op op_mod (pv 2) pe_int) (pe_op op_add (pe_op op_mul (pe_ix ix_list (pv 0) pe_int (fun _ _ => rfl)) (pe_ix ix_list (pv 0) pe_int (fun _ _ => rfl))) pe_int)))
      (pss_cons (ps_asg (pe_op op_mod (pe_op op_add (pe_op op_add (pe_op op_mul (pe_ix ix_list (pv 0) pe_int (fun _ _ => rfl)) pe_int) (pv 2)) (pe_op op_mul pe_int (pe_ix ix_list (pv 0) pe_int (fun _ _ => rfl)))) pe_int) (pg_sub (pv 0) pe_int set_list))
      (pss_one (ps_ret (pe_op op_mod (pe_op op_fdiv (pe_op op_mod (pe_op op_pow (pe_ix ix_list (pv 0) pe_int (fun _ _ => rfl)) pe_int) pe_int) pe_int) (pv 1)))))))))), ?_⟩
    -- if len(pool[0]) > 0
    refine ⟨_, rfl, p, _, _, _, rfl, rfl, SqL.of a1, at_of (j := 0) rfl rfl, g, _, rfl, .inl (SqL.of a2), _, _, rfl, rfl, _, rfl, ite2 (fun e => ?_) (fun e => ?_)⟩
    · obtain ⟨z, r, rfl⟩ : ∃ z r, gs = z :: r := by
        cases gs with
        | nil => exact absurd e (by decide)
        | cons z r => exact ⟨z, r, rfl⟩
      refine ⟨_, rfl, p, _, _, _, rfl, rfl, SqL.of a1, at_of (j := 0) rfl rfl, g, _, _, .int z, rfl, rfl, SqL.of a2, at_of (j := 0) rfl rfl, ?_⟩
      have a1' : ∀ o, upd H g o p = some (.lst [.ref g, .ref s, .int st, .int ct]) := fun o => by
        rw [upd_ne npg]
        exact a1
      have a3' : ∀ o, upd H g o s = some (.lst (ss.map V.int)) := fun o => by
        rw [upd_ne a10]
        exact a3
      refine ⟨_, rfl, _, rfl, _, _, rfl, rfl, ⟨hm0, hm1⟩, _, rfl, p, _, _, _, rfl, rfl, SqL.of a1, at_of (j := 0) rfl rfl, g, _, 0, 0, rfl, rfl, a2, ixN0 (by simp), ?_⟩
      refine ⟨_, rfl, _, rfl, _, _, rfl, rfl, ⟨hm0, hm1⟩, rfl, _, rfl, ite2 (fun e0 => ?_) (fun e0 => ?_)⟩
      · refine ⟨_, rfl, p, _, _, _, rfl, rfl, SqL.of (a1' _), at_of (j := 0) rfl rfl, .inl ⟨rfl, _, SqL.of upd_same⟩, g, _, 0, 0, _, rfl, rfl, upd_same, by decide, by decide, six0 (by simp), rfl, ?_⟩
        refine ⟨_, rfl, _, rfl, _, _, rfl, rfl, hm0, ?_⟩
        refine q _ _ (Int.emod_nonneg _ (by omega)) (Int.emod_lt_of_pos _ hm0) ⟨r, ss, st, ct, ?_, ?_, ?_, ?_, a5, a6, a7, a8, by omega, a10⟩ (fun b o hb n => ?_)
        · rw [upd_upd]
          exact a1' _
        · show upd _ g _ g = _
          rw [upd_same]
          rfl
        · rw [upd_upd]
          exact a3' _
        · simp at a4
          omega
        · rw [upd_ne n.2.1, upd_ne n.2.1]
          exact hb
      · refine ⟨_, rfl, _, rfl, _, _, rfl, rfl, hm0, ?_⟩
        refine q _ _ (Int.emod_nonneg _ (by omega)) (Int.emod_lt_of_pos _ hm0) ⟨(z / m) :: r, ss, st, ct, a1' _, ?_, a3' _, ?_, a5, a6, a7, a8, by omega, a10⟩ (fun b o hb n => ?_)
        · show upd _ g _ g = _
          rw [upd_same]
          rfl
        · simpa using a4
        · rw [upd_ne n.2.1]
          exact hb
    · -- pool[3] = pool[3] + 1
      refine ⟨_, rfl, p, _, _, _, rfl, rfl, SqL.of a1, at_of (j := 3) rfl rfl, _, _, rfl, rfl, _, rfl, p, _, 3, 3, rfl, rfl, a1, rfl, ?_⟩
      have w1 : upd H p (.lst [.ref g, .ref s, .int st, .int (ct + 1)]) p = some (.lst [.ref g, .ref s, .int st, .int (ct + 1)]) := upd_same
      have w2 : ∀ o, upd H p o g = some (.lst (gs.map V.int)) := fun o => by
        rw [upd_ne npg.symm]
        exact a2
      have w3 : ∀ o, upd H p o s = some (.lst (ss.map V.int)) := fun o => by
        rw [upd_ne nps.symm]
        exact a3
      -- cell = 0; if len(pool[1]) > 0
      refine ⟨_, rfl, p, _, _, _, rfl, rfl, SqL.of w1, at_of (j := 1) rfl rfl, s, _, rfl, .inl (SqL.of (w3 _)), _, _, rfl, rfl, _, rfl, ite2 (fun e => ?_) (fun e => ?_)⟩
      · have l0 : 0 < ss.length := by
          have := of_decide_eq_true e
          simpa using this
        have l1 : 0 ≤ (ct + 1) % (ss.length : Int) := Int.emod_nonneg _ (by omega)
        have l2 : (ct + 1) % (ss.length : Int) < ss.length := Int.emod_lt_of_pos _ (by omega)
        obtain ⟨j, ej⟩ : ∃ j : Nat, (ct + 1) % (ss.length : Int) = (j : Int) := ⟨_, (Int.toNat_of_nonneg l1).symm⟩
        have hj : j < ss.length := by omega
        have gj : (ss.map V.int)[j]? = some (.int ss[j]) := get_map (List.getElem?_eq_getElem hj)
        refine ⟨_, rfl, p, _, _, _, rfl, rfl, SqL.of w1, at_of (j := 1) rfl rfl, _, rfl, p, _, _, _, rfl, rfl, SqL.of w1, at_of (j := 3) rfl rfl, _, rfl, p, _, _, _, rfl, rfl, SqL.of w1, at_of (j := 1) rfl rfl, s, _, rfl, .inl (SqL.of (w3 _)), _, _, rfl, rfl, (by rw [List.length_map]; omega),
          s, _, _, _, rfl, rfl, SqL.of (w3 _), at_of (by rw [List.length_map]; exact ej) gj, ?_⟩
        generalize ss[j] = y
        refine ⟨_, rfl, _, _, rfl, rfl, (by show (0 : Int) < _; decide), _, rfl, p, _, _, _, rfl, rfl, SqL.of w1, at_of (j := 3) rfl rfl, _, rfl, p, _, _, _, rfl, rfl, SqL.of w1, at_of (j := 3) rfl rfl, _, _, rfl, rfl, .inl ⟨by omega, by omega⟩, _, _, rfl, rfl, _, _, rfl, rfl, .inl ⟨by omega, by omega⟩, ?_⟩
        refine ⟨_, rfl, p, _, _, _, rfl, rfl, SqL.of w1, at_of (j := 2) rfl rfl, _, _, rfl, rfl, .inl ⟨by omega, by omega⟩, _, rfl, _, _, rfl, rfl, _, rfl, p, _, _, _, rfl, rfl, SqL.of w1, at_of (j := 3) rfl rfl, _, _, rfl, rfl, .inl ⟨by omega, by omega⟩, _, _, rfl, rfl, _, _, rfl, rfl, (by show (0 : Int) < _; decide), _, rfl, p, _, 2, 2, rfl, rfl, w1, rfl, ?_⟩
        dsimp only [List.set]
        generalize hz : ((st * 48271 + y % 2147483629 * ((ct + 1) * (ct + 1) + 1) + 97 * (ct + 1)) % 2147483647 : Int) = z
        have hz0 : 0 ≤ z := by omega
        have hz1 : z < 2147483647 := by omega
        have w5 : upd (upd H p (.lst [.ref g, .ref s, .int st, .int (ct + 1)])) p (.lst [.ref g, .ref s, .int z, .int (ct + 1)]) p = some (.lst [.ref g, .ref s, .int z, .int (ct + 1)]) := upd_same
        refine ⟨_, rfl, p, _, _, _, rfl, rfl, SqL.of w5, at_of (j := 2) rfl rfl, _, _, rfl, rfl, ⟨by decide, by decide, by omega⟩, _, _, rfl, rfl, (by show (0 : Int) < _; decide), _, _, rfl, rfl, ⟨by decide, by decide⟩, _, rfl, _, _, rfl, rfl, hm0, ?_⟩
        refine q _ _ (Int.emod_nonneg _ (by omega)) (Int.emod_lt_of_pos _ hm0) ⟨gs, ss, z, ct + 1, w5, ?_, ?_, a4, a5, hz0, hz1, by omega, by omega, a10⟩ (fun b o hb n => ?_)
        · rw [upd_upd]
          exact w2 _
        · rw [upd_upd]
          exact w3 _
        · rw [upd_upd, upd_ne n.1]
          exact hb
      · refine ⟨_, rfl, _, _, rfl, rfl, (by show (0 : Int) < _; decide), _, rfl, p, _, _, _, rfl, rfl, SqL.of w1, at_of (j := 3) rfl rfl, _, rfl, p, _, _, _, rfl, rfl, SqL.of w1, at_of (j := 3) rfl rfl, _, _, rfl, rfl, .inl ⟨by omega, by omega⟩, _, _, rfl, rfl, _, _, rfl, rfl, .inl ⟨by omega, by omega⟩, ?_⟩
        refine ⟨_, rfl, p, _, _, _, rfl, rfl, SqL.of w1, at_of (j := 2) rfl rfl, _, _, rfl, rfl, .inl ⟨by omega, by omega⟩, _, rfl, _, _, rfl, rfl, _, rfl, p, _, _, _, rfl, rfl, SqL.of w1, at_of (j := 3) rfl rfl, _, _, rfl, rfl, .inl ⟨by omega, by omega⟩, _, _, rfl, rfl, _, _, rfl, rfl, (by show (0 : Int) < _; decide), _, rfl, p, _, 2, 2, rfl, rfl, w1, rfl, ?_⟩
        dsimp only [List.set]
        generalize hz : ((st * 48271 + 0 % 2147483629 * ((ct + 1) * (ct + 1) + 1) + 97 * (ct + 1)) % 2147483647 : Int) = z
        have hz0 : 0 ≤ z := by omega
        have hz1 : z < 2147483647 := by omega
        have w5 : upd (upd H p (.lst [.ref g, .ref s, .int st, .int (ct + 1)])) p (.lst [.ref g, .ref s, .int z, .int (ct + 1)]) p = some (.lst [.ref g, .ref s, .int z, .int (ct + 1)]) := upd_same
        refine ⟨_, rfl, p, _, _, _, rfl, rfl, SqL.of w5, at_of (j := 2) rfl rfl, _, _, rfl, rfl, ⟨by decide, by decide, by omega⟩, _, _, rfl, rfl, (by show (0 : Int) < _; decide), _, _, rfl, rfl, ⟨by decide, by decide⟩, _, rfl, _, _, rfl, rfl, hm0, ?_⟩
        refine q _ _ (Int.emod_nonneg _ (by omega)) (Int.emod_lt_of_pos _ hm0) ⟨gs, ss, z, ct + 1, w5, ?_, ?_, a4, a5, hz0, hz1, by omega, by omega, a10⟩ (fun b o hb n => ?_)
        · rw [upd_upd]
          exact w2 _
        · rw [upd_upd]
          exact w3 _
        · rw [upd_upd, upd_ne n.1]
          exact hb
end

def wordsL : List Str := ["yes", "no", "not", "and", "or", "step", "some", "all", "next", "once", "ever", "until", "unless"]
def lettersS : Str := "abcdefghijklmnopqrstuvwxyz"
structure Wd (K : PySem.W.Frag) (mg : Str → Option Value) where
  aW : Addr
  uL : Value
  gWORDS : mg "WORDS" = some (.ref aW)
  rWORDS : RelV (.ref aW) (.ref aW)
  sW : ∀ H, SqT K H aW (wordsL.map V.str)
  gLETTERS : mg "LETTERS" = some uL
  rLETTERS : RelV (.str lettersS) uL
/-- a text that is_name takes -/
structure GoodName (z : Str) : Prop where
  lo : 1 ≤ z.length
  hi : z.length ≤ 8
  nw : z ∉ wordsL
  al : ∀ c ∈ z.cps.toList, c ∈ lettersS.cps.toList
theorem flat_str (xs : List Str) : (xs.map V.str).all flatV = true := by
  rw [List.all_map, List.all_eq_true]
  exact fun _ _ => rfl
theorem flat_int (xs : List Int) : (xs.map V.int).all flatV = true := by
  rw [List.all_map, List.all_eq_true]
  exact fun _ _ => rfl
theorem inV_str (z : Str) (xs : List Str) : inV (.str z) (xs.map V.str) = decide (z ∈ xs) := by
  unfold inV
  rw [List.any_map]
  by_cases h : z ∈ xs
  · rw [decide_eq_true h, List.any_eq_true]
    exact ⟨z, h, by simp [Function.comp, eqV]⟩
  · rw [decide_eq_false h, List.any_eq_false]
    intro y hy q
    exact h (by simp [Function.comp, eqV] at q; rw [← q]; exact hy)
theorem inV_int (z : Int) (xs : List Int) : inV (.int z) (xs.map V.int) = decide (z ∈ xs) := by
  unfold inV
  rw [List.any_map]
  by_cases h : z ∈ xs
  · rw [decide_eq_true h, List.any_eq_true]
    exact ⟨z, h, by simp [Function.comp, eqV]⟩
  · rw [decide_eq_false h, List.any_eq_false]
    intro y hy q
    exact h (by simp [Function.comp, eqV] at q; rw [← q]; exact hy)

/-! ### rising rows -/
/-- a rising row of numbers below many -/
def RiseI (many : Int) (ns : List Int) : Prop := ns.Pairwise (· < ·) ∧ ∀ n ∈ ns, 0 ≤ n ∧ n < many
theorem rise_len {many : Int} {ns : List Int} (h : RiseI many ns) (hm : 0 ≤ many) : (ns.length : Int) ≤ many := by
  have key : ∀ (ns : List Int) (lo : Int), ns.Pairwise (· < ·) → (∀ n ∈ ns, lo ≤ n ∧ n < many) → lo ≤ many → (ns.length : Int) ≤ many - lo := by
    intro ns
    induction ns with
    | nil =>
      intro lo _ _ h
      show (0 : Int) ≤ _
      omega
    | cons x r ih =>
      intro lo hp hb hl
      obtain ⟨p1, p2⟩ := List.pairwise_cons.mp hp
      have b1 := hb x List.mem_cons_self
      have := ih (x + 1) p2 (fun n hn => ⟨by have := p1 n hn; omega, (hb n (List.mem_cons_of_mem _ hn)).2⟩) (by omega)
      rw [List.length_cons]
      omega
  have := key ns 0 h.1 h.2 hm
  omega
/-- a rising row of names -/
def RiseS (zs : List Str) : Prop := zs.Pairwise (fun x y => x.cps.toList < y.cps.toList) ∧ ∀ z ∈ zs, GoodName z

/-! ### fairtrees.machines, on what it takes -/
structure MachAt (K : PySem.W.Frag) (H : Hp) (m : Addr) (steps : List (List Int)) (marks : List (List Str)) : Prop where
  ex : ∃ (s k : Addr) (sa ka : List Addr), SqT K H m [.ref s, .ref k] ∧ SqT K H s (sa.map V.ref) ∧ SqT K H k (ka.map V.ref) ∧
    Each (fun a ns => SqT K H a (ns.map V.int)) sa steps ∧ Each (fun a zs => SqT K H a (zs.map V.str)) ka marks
structure GoodMach (steps : List (List Int)) (marks : List (List Str)) : Prop where
  len : steps.length = marks.length
  lo : 1 ≤ steps.length
  hi : steps.length ≤ 40
  st : ∀ r ∈ steps, RiseI steps.length r
  mr : ∀ r ∈ marks, RiseS r ∧ r.length ≤ 8
theorem MachAt.imm {K : PySem.W.Frag} {H H' : Hp} {m : Addr} {steps : List (List Int)} {marks : List (List Str)} (M : MachAt K H m steps marks) (e : Imm H H') : MachAt K H' m steps marks := by
  obtain ⟨s, k, sa, ka, h1, h2, h3, h4, h5⟩ := M.ex
  exact ⟨s, k, sa, ka, e.sq h1, e.sq h2, e.sq h3, h4.imp fun _ _ h => e.sq h, h5.imp fun _ _ h => e.sq h⟩
structure WishAt (K : PySem.W.Frag) (H : Hp) (t : Addr) (ws : List (Str × Str)) : Prop where
  ex : ∃ wa : List Addr, SqT K H t (wa.map V.ref) ∧ Each (fun a (x : Str × Str) => SqT K H a [.str x.1, .str x.2]) wa ws
theorem WishAt.imm {K : PySem.W.Frag} {H H' : Hp} {t : Addr} {ws : List (Str × Str)} (M : WishAt K H t ws) (e : Imm H H') : WishAt K H' t ws := by
  obtain ⟨wa, h1, h2⟩ := M.ex
  exact ⟨wa, e.sq h1, h2.imp fun _ _ h => e.sq h⟩
theorem ref_get {as : List Addr} {i : Nat} {v : V} (h : (as.map V.ref)[i]? = some v) : ∃ a, as[i]? = some a ∧ v = .ref a := map_get h
theorem dec_str (x y : Str) : decide (V.str x = V.str y) = decide (x = y) := by
  by_cases h : x = y
  · rw [decide_eq_true h, decide_eq_true (by rw [h])]
  · rw [decide_eq_false h, decide_eq_false fun q => h (V.str.inj q)]
theorem dec_int (x y : Int) : decide (V.int x = V.int y) = decide (x = y) := by
  by_cases h : x = y
  · rw [decide_eq_true h, decide_eq_true (by rw [h])]
  · rw [decide_eq_false h, decide_eq_false fun q => h (V.int.inj q)]
/-- the standings that bear a name -/
def bearersOf (marks : List (List Str)) (z : Str) (n : Nat) : List Int := ((List.range n).filter fun j => decide (z = Str.ofString "") || decide (z ∈ marks.getD j [])).map Int.ofNat
theorem bearersOf_yes {marks : List (List Str)} {z : Str} {n : Nat} (h : (decide (z = Str.ofString "") || decide (z ∈ marks.getD n [])) = true) : bearersOf marks z (n + 1) = bearersOf marks z n ++ [(n : Int)] := by
  unfold bearersOf
  rw [List.range_succ, List.filter_append, List.map_append, List.filter_cons, if_pos h] <;> rfl
theorem bearersOf_no {marks : List (List Str)} {z : Str} {n : Nat} (h : (decide (z = Str.ofString "") || decide (z ∈ marks.getD n [])) = false) : bearersOf marks z (n + 1) = bearersOf marks z n := by
  unfold bearersOf
  rw [List.range_succ, List.filter_append, List.map_append, List.filter_cons, if_neg (by rw [h]; decide)]
  show _ ++ [] = _
  rw [List.append_nil]

/-! ### _law_name, _law_names -/
theorem letters_eq : lettersS.cps.toList = List.range' 97 26 := by decide +kernel
theorem letters_at {j : Nat} (hj : j < 26) : lettersS.cps.toList[j]? = some (97 + j) := by
  rw [letters_eq, List.getElem?_range' hj]
  simp
theorem letters_len : lettersS.length ≤ 100000 := by
  show lettersS.cps.size ≤ 100000
  rw [← Array.length_toList, letters_eq]
  simp
theorem letters_mem {j : Nat} (hj : j < 26) : 97 + j ∈ lettersS.cps.toList := List.mem_of_getElem? (letters_at hj)
def Alpha (z : Str) : Prop := ∀ c ∈ z.cps.toList, c ∈ lettersS.cps.toList
theorem app_list (x y : Str) : (x ++ y).cps.toList = x.cps.toList ++ y.cps.toList := by
  show (x.cps ++ y.cps).toList = _
  rw [Array.toList_append]
theorem app_len (x y : Str) : (x ++ y).length = x.length + y.length := by
  show (x ++ y).cps.size = x.cps.size + y.cps.size
  rw [← Array.length_toList, ← Array.length_toList, ← Array.length_toList, app_list, List.length_append]
theorem alpha_app {x : Str} {j : Nat} (h : Alpha x) (hj : j < 26) : Alpha (x ++ ⟨#[97 + j]⟩) := fun c hc => by
  rw [app_list] at hc
  rcases List.mem_append.mp hc with hc | hc
  · exact h c hc
  · have e : c = 97 + j := by simpa using hc
    rw [e]
    exact letters_mem hj
theorem pigeon {α : Type} [BEq α] [LawfulBEq α] : ∀ (l m : List α), l.Nodup → (∀ x ∈ l, x ∈ m) → l.length ≤ m.length
  | [], _, _, _ => Nat.zero_le _
  | x :: r, m, nd, h => by
    obtain ⟨n1, n2⟩ := List.nodup_cons.mp nd
    have hx := h x List.mem_cons_self
    have := pigeon r (m.erase x) n2 fun y hy => (List.mem_erase_of_ne (fun q => n1 (by rw [← q]; exact hy))).mpr (h y (List.mem_cons_of_mem _ hy))
    rw [List.length_erase_of_mem hx] at this
    have : 0 < m.length := List.length_pos_of_mem hx
    rw [List.length_cons]
    omega
/-- what the loop tries at its k-th turn -/
def cand (nm : Str) (last k : Nat) : Str := nm ++ ⟨#[97 + (last + k) % 26]⟩
theorem cand_inj {nm : Str} {last j k : Nat} (hj : j < 26) (hk : k < 26) (h : cand nm last j = cand nm last k) : j = k := by
  have e : (cand nm last j).cps.toList = (cand nm last k).cps.toList := by rw [h]
  unfold cand at e
  rw [app_list, app_list] at e
  have e2 := List.append_cancel_left e
  simp at e2
  omega
theorem cand_some {nm : Str} {last : Nat} {words taken : List Str} (hw : words.length + taken.length < 26) (h : ∀ j, j < 26 → cand nm last j ∈ words ∨ cand nm last j ∈ taken) : False := by
  have nd : ((List.range 26).map (cand nm last)).Nodup := by
    refine List.pairwise_map.mpr ((List.pairwise_lt_range (n := 26)).imp_of_mem fun ha hb hab e => ?_)
    have := cand_inj (List.mem_range.mp ha) (List.mem_range.mp hb) e
    omega
  have := pigeon _ (words ++ taken) nd fun x hx => by
    obtain ⟨j, hj, rfl⟩ := List.mem_map.mp hx
    exact List.mem_append.mpr (h j (List.mem_range.mp hj))
  rw [List.length_map, List.length_range, List.length_append] at this
  omega
abbrev s_law_name : Stmt := topS 24
theorem sc_law_name : FnScope ["_law_pool_here", "_law_start", "_law_taken", "_law_letters", "_law_name_here", "_law_k", "_law_last", "_law_words", "_law_found"] ["_law_pool_here", "_law_start", "_law_taken"] (defScope s_law_name) := ⟨rfl, rfl, rfl, by decide +kernel, rfl, by decide +kernel, by decide +kernel⟩
abbrev s_law_names : Stmt := topS 25
theorem sc_law_names : FnScope ["_law_pool_here", "_law_many", "_law_letters", "_law_start", "_law_k", "_law_names_here"] ["_law_pool_here", "_law_many"] (defScope s_law_names) := ⟨rfl, rfl, rfl, by decide +kernel, rfl, by decide +kernel, by decide +kernel⟩
section
variable {P : Program} {w : World} {K : PySem.W.Frag} {mg : Str → Option Value} {base : Heap}
def spLName : Sp := fun vs H Q _ => ∃ (a : PA) (c : Nat) (start : Str) (t : Addr) (taken : List Str), vs = [.ref a.p, .str start, .ref t] ∧ Pool H a c ∧ c < 900000 ∧ H t = some (.lst (taken.map V.str)) ∧ Off a t ∧ Alpha start ∧ start.length ≤ 4 ∧ taken.length ≤ 12 ∧
  ∀ H' z, GoodName z → z ∉ taken → Pool H' a (c + 5) → Kp a H H' → Q (.str z) H'
theorem ok_lname {f : Addr} {fd : FuncData} (F : Fun K "_law_name" "_law_name" s_law_name f fd) (T : Bi mg) (c_law_draw : Cal P w K mg base 1 "_law_draw" ["_law_pool_here", "_law_many"] spDraw) : FnOk P w K mg base CX0 2 f fd ["_law_pool_here", "_law_start", "_law_taken"] spLName := by
  refine F.ok sc_law_name (fun vs H Q E h => ?_) (fun cdv A outer s H vs Q E hr h => ?_)
  · obtain ⟨a, c, start, t, taken, rfl, _⟩ := h
    rfl
  · obtain ⟨a, c, start, t, taken, rfl, PP, hc, ht, ot, al, sl, tl, q⟩ := h
    refine ⟨_, (pss_cons (ps_set (i := 3) sc_law_name.nd rfl (.inl rfl) pe_str)
      (pss_cons (ps_set (i := 4) sc_law_name.nd rfl (.inl rfl) (pv 1))
      (pss_cons (ps_for PassesOwn.never rfl (pi_range1 (by rfl) T.range (pa_cons (pe_call c_law_draw.G hr (by rfl) c_law_draw.g c_law_draw.kp c_law_draw.b .nil pass0 (pa_cons (pv 0) (pa_cons pe_int pa_nil))) pa_nil)) (pg_name (i := 5) sc_law_name.nd rfl (.inl rfl))
        (pss_one (ps_set (i := 4) sc_law_name.nd rfl (.inl rfl) (pe_op op_add_str (pv 4) (pe_ix ix_str (pv 3) (pe_call c_law_draw.G hr (by rfl) c_law_draw.g c_law_draw.kp c_law_draw.b .nil pass0 (pa_cons (pv 0) (pa_cons pe_int pa_nil))) (fun _ _ => rfl))))))
      (pss_cons (ps_set (i := 6) sc_law_name.nd rfl (.inl rfl) (pe_call c_law_draw.G hr (by rfl) c_law_draw.g c_law_draw.kp c_law_draw.b .nil pass0 (pa_cons (pv 0) (pa_cons pe_int pa_nil))))
      (pss_cons (ps_set (i := 7) sc_law_name.nd rfl (.inl rfl) (pe_lst (pa_cons pe_str (pa_cons pe_str (pa_cons pe_str (pa_cons pe_str (pa_cons pe_str (pa_cons pe_str (pa_cons pe_str (pa_cons pe_str (pa_cons pe_str (pa_cons pe_str (pa_cons pe_str (pa_cons pe_str (pa_cons pe_str pa_nil)))))))))))))))
      (pss_cons (ps_for PassesOwn.never rfl (pi_range1 (by rfl) T.range (pa_cons pe_int pa_nil)) (pg_name (i := 5) sc_law_name.nd rfl (.inl rfl))
        (pss_cons (ps_set (i := 8) sc_law_name.nd rfl (.inl rfl) (pe_op op_add_str (pv 4) (pe_ix ix_str (pv 3) (pe_op op_mod (pe_op op_add (pv 6) (pv 5)) pe_int) (fun _ _ => rfl))))
        (pss_one (ps_if (PW.pt (pw_and (pt_cmpR op_notIn_seq (pv 8) (pv 7) (by rfl)) (pw_and1 (pt_cmpR op_notIn_seq (pv 8) (pv 2) (by rfl)))))
          (pss_one (ps_ret (pv 8)))
          pss_nil))))
      (pss_one (ps_ret (pe_op op_add_str (pv 4) pe_str))))))))), ?_⟩
    -- for k in range(draw(pool, 4))
    refine ⟨_, rfl, _, rfl, a, c, 4, rfl, PP, by omega, by decide, by decide, fun H1 r r0 r1 P1 k1 => ⟨r, rfl, by omega, by omega, for_range (lo := 0) (n := r.toNat) (fun i σ H' => ∃ nm y,
      σ = [some (.ref a.p), some (.str start), some (.ref t), some (.str lettersS), some (.str nm), y, none, none, none] ∧ Alpha nm ∧ nm.length = start.length + i ∧ Pool H' a (c + 1 + i) ∧ Kp a H H')
      ⟨start, none, rfl, al, rfl, P1, k1⟩ ?_ ?_⟩⟩
    · rintro i σ H2 hi ⟨nm, y, rfl, an, ln, P2, k2⟩
      refine ⟨_, rfl, _, rfl, _, rfl, a, _, 26, rfl, P2, by omega, by decide, by decide, fun H3 r' r0' r1' P3 k3 => ?_⟩
      obtain ⟨j, rfl⟩ : ∃ j : Nat, r' = (j : Int) := ⟨r'.toNat, by omega⟩
      have hj : j < 26 := by omega
      refine ⟨lettersS, _, 97 + j, rfl, rfl, szOk letters_len, atI_nat (letters_at hj), nm, _, rfl, rfl, ?_, ?_⟩
      · show nm.length + 1 ≤ sizeLine
        exact szOk (by omega)
      · refine ⟨nm ++ ⟨#[97 + j]⟩, _, rfl, alpha_app an hj, ?_, ?_, k2.trans k3⟩
        · rw [app_len, ln]
          rfl
        · exact P3
    · rintro σ H2 ⟨nm, y, rfl, an, ln, P2, k2⟩
      -- last = draw(pool, 26); words
      refine ⟨_, rfl, a, _, 26, rfl, P2, by omega, by decide, by decide, fun H3 r' r0' r1' P3 k3 => ?_⟩
      obtain ⟨last, rfl⟩ : ∃ j : Nat, r' = (j : Int) := ⟨r'.toNat, by omega⟩
      refine ⟨by show 13 ≤ sizeLine; decide, fun l hl => ?_⟩
      have hl2 : upd H3 l (.lst (wordsL.map V.str)) l = some (.lst (wordsL.map V.str)) := upd_same
      have ht3 : H3 t = some (.lst (taken.map V.str)) := (k2.trans k3) _ _ ht ot
      have ht4 : ∀ o, upd H3 l o t = some (.lst (taken.map V.str)) := fun o => by
        rw [upd_ne (ne_of_none ht3 hl)]
        exact ht3
      refine ⟨26, rfl, by decide, by decide, for_range (lo := 0) (n := 26) (fun i σ H' => ∃ y z,
        σ = [some (.ref a.p), some (.str start), some (.ref t), some (.str lettersS), some (.str nm), y, some (.int last), some (.ref l), z] ∧ H' = upd H3 l (.lst (wordsL.map V.str)) ∧ ∀ j, j < i → cand nm last j ∈ wordsL ∨ cand nm last j ∈ taken)
        ⟨_, _, rfl, rfl, fun j hj => absurd hj (Nat.not_lt_zero _)⟩ ?_ ?_⟩
      · rintro i σ H' hi ⟨y', z, rfl, rfl, all⟩
        have hm : (last + i) % 26 < 26 := Nat.mod_lt _ (by decide)
        have em : ((last : Int) + (0 + (i : Int))) % 26 = (((last + i) % 26 : Nat) : Int) := by omega
        refine ⟨_, rfl, _, rfl, _, rfl, _, rfl, _, _, rfl, rfl, _, _, rfl, rfl, (by show (0 : Int) < _; decide), lettersS, _, 97 + (last + i) % 26, rfl, rfl, szOk letters_len, (by
          show atI _ (((last : Int) + (0 + (i : Int))) % 26) = _
          rw [em]
          exact atI_nat (letters_at hm)), nm, _, rfl, rfl, ?_, ?_⟩
        · show nm.length + 1 ≤ sizeLine
          exact szOk (by omega)
        · refine ⟨_, rfl, _, rfl, l, _, rfl, .inl (SqL.of hl2), rfl, flat_str _, _, rfl, ?_⟩
          rw [inV_str]
          refine ite2 (fun e => ?_) (fun e => ?_)
          · refine ⟨_, rfl, _, rfl, t, _, rfl, .inl (SqL.of (ht4 _)), rfl, flat_str _, _, rfl, ?_⟩
            rw [inV_str]
            refine ite2 (fun e2 => ?_) (fun e2 => ?_)
            · have n1 : cand nm last i ∉ wordsL := notdec e
              have n2 : cand nm last i ∉ taken := notdec e2
              have lc : (cand nm last i).length = nm.length + 1 := by
                unfold cand
                rw [app_len]
                rfl
              refine ⟨_, rfl, q _ (cand nm last i) ⟨by omega, by omega, n1, alpha_app an hm⟩ n2 ((P3.upd (P3.off hl)).mono (by omega)) ((k2.trans k3).mut ((k2.trans k3).free hl (P3.off hl)))⟩
            · refine ⟨_, _, rfl, rfl, fun j hj => ?_⟩
              by_cases h : j < i
              · exact all j h
              · have e3 : j = i := by omega
                rw [e3]
                exact .inr (dec_of e2)
          · refine iteF ⟨_, _, rfl, rfl, fun j hj => ?_⟩
            by_cases h : j < i
            · exact all j h
            · have e3 : j = i := by omega
              rw [e3]
              exact .inl (dec_of e)
      · rintro σ H' ⟨y', z, rfl, rfl, all⟩
        exact (cand_some (words := wordsL) (by show 13 + taken.length < 26; omega) all).elim
def spLNames : Sp := fun vs H Q _ => ∃ (a : PA) (c : Nat) (n : Nat), vs = [.ref a.p, .int n] ∧ Pool H a c ∧ c < 800000 ∧ n ≤ 12 ∧
  ∀ (H' : Hp) (l : Addr) (zs : List Str), Pool H' a (c + 5 + n * 5) → Kp a H H' → H' l = some (.lst (zs.map V.str)) → Off a l → zs.Nodup → (∀ z ∈ zs, GoodName z) → zs.length = n → Q (.ref l) H'
theorem ok_lnames {f : Addr} {fd : FuncData} (F : Fun K "_law_names" "_law_names" s_law_names f fd) (T : Bi mg) (c_law_draw : Cal P w K mg base 1 "_law_draw" ["_law_pool_here", "_law_many"] spDraw) (c_law_name : Cal P w K mg base 2 "_law_name" ["_law_pool_here", "_law_start", "_law_taken"] spLName) :
    FnOk P w K mg base CX0 3 f fd ["_law_pool_here", "_law_many"] spLNames := by
  refine F.ok sc_law_names (fun vs H Q E h => ?_) (fun cdv A outer s H vs Q E hr h => ?_)
  · obtain ⟨a, c, n, rfl, _⟩ := h
    rfl
  · obtain ⟨a, c, n, rfl, PP, hc, hn, q⟩ := h
    refine ⟨_, (pss_cons (ps_set (i := 2) sc_law_names.nd rfl (.inl rfl) pe_str)
      (pss_cons (ps_set (i := 3) sc_law_names.nd rfl (.inl rfl) pe_str)
      (pss_cons (ps_for PassesOwn.never rfl (pi_range1 (by rfl) T.range (pa_cons (pe_ix ix_list (pe_lst (pa_cons pe_int (pa_cons pe_int (pa_cons pe_int (pa_cons pe_int pa_nil))))) (pe_call c_law_draw.G (hr.mono (by decide)) (by rfl) c_law_draw.g c_law_draw.kp c_law_draw.b .nil pass0 (pa_cons (pv 0) (pa_cons pe_int pa_nil))) (fun _ _ => rfl)) pa_nil)) (pg_name (i := 4) sc_law_names.nd rfl (.inl rfl))
        (pss_one (ps_set (i := 3) sc_law_names.nd rfl (.inl rfl) (pe_op op_add_str (pv 3) (pe_ix ix_str (pv 2) (pe_call c_law_draw.G (hr.mono (by decide)) (by rfl) c_law_draw.g c_law_draw.kp c_law_draw.b .nil pass0 (pa_cons (pv 0) (pa_cons pe_int pa_nil))) (fun _ _ => rfl))))))
      (pss_cons (ps_set (i := 5) sc_law_names.nd rfl (.inl rfl) (pe_lst pa_nil))
      (pss_cons (ps_for PassesOwn.never rfl (pi_range1 (by rfl) T.range (pa_cons (pv 1) pa_nil)) (pg_name (i := 4) sc_law_names.nd rfl (.inl rfl))
        (pss_one (ps_expr (pe_bm PySem.F.plainAttrs_list PySem.F.slot_list_append PySem.F.type_list_append mt_append (pv 5) (pa_cons (pe_call c_law_name.G hr (by rfl) c_law_name.g c_law_name.kp c_law_name.b .nil pass0 (pa_cons (pv 0) (pa_cons (pv 3) (pa_cons (pv 5) pa_nil)))) pa_nil)))))
      (pss_one (ps_ret (pv 5)))))))), ?_⟩
    refine ⟨by show 4 ≤ sizeLine; decide, fun d hd => ⟨_, rfl, a, c, 4, rfl, PP.upd (PP.off hd), by omega, by decide, by decide, fun H1 r r0 r1 P1 k1 => ?_⟩⟩
    have k1' : Kp a H H1 := (skp (same_upd hd)).trans k1
    have hd1 : H1 d = some (.lst [.int 0, .int 0, .int 1, .int 4]) := k1 _ _ upd_same (PP.off hd)
    obtain ⟨v, v0, v1, hv⟩ : ∃ v : Int, 0 ≤ v ∧ v ≤ 4 ∧ atI [V.int 0, .int 0, .int 1, .int 4] r = some (.int v) := by
      have : r = 0 ∨ r = 1 ∨ r = 2 ∨ r = 3 := by omega
      rcases this with rfl | rfl | rfl | rfl
      · exact ⟨0, by decide, by decide, rfl⟩
      · exact ⟨0, by decide, by decide, rfl⟩
      · exact ⟨1, by decide, by decide, rfl⟩
      · exact ⟨4, by decide, by decide, rfl⟩
    refine ⟨d, _, r, .int v, rfl, rfl, SqL.of hd1, hv, v, rfl, by omega, by omega, for_range (lo := 0) (n := v.toNat) (fun i σ H' => ∃ nm y,
      σ = [some (.ref a.p), some (.int n), some (.str lettersS), some (.str nm), y, none] ∧ Alpha nm ∧ nm.length = i ∧ Pool H' a (c + 1 + i) ∧ Kp a H H')
      ⟨Str.ofString "", none, rfl, (fun c hc => absurd hc (by rw [show (Str.ofString "").cps.toList = [] by decide +kernel]; exact List.not_mem_nil)), (by decide +kernel), P1, k1'⟩ ?_ ?_⟩
    · rintro i σ H2 hi ⟨nm, y, rfl, an, ln, P2, k2⟩
      refine ⟨_, rfl, _, rfl, _, rfl, a, _, 26, rfl, P2, by omega, by decide, by decide, fun H3 r' r0' r1' P3 k3 => ?_⟩
      obtain ⟨j, rfl⟩ : ∃ j : Nat, r' = (j : Int) := ⟨r'.toNat, by omega⟩
      have hj : j < 26 := by omega
      refine ⟨lettersS, _, 97 + j, rfl, rfl, szOk letters_len, atI_nat (letters_at hj), nm, _, rfl, rfl, ?_, ?_⟩
      · show nm.length + 1 ≤ sizeLine
        exact szOk (by omega)
      · refine ⟨nm ++ ⟨#[97 + j]⟩, _, rfl, alpha_app an hj, ?_, P3, k2.trans k3⟩
        rw [app_len, ln]
        rfl
    · rintro σ H2 ⟨nm, y, rfl, an, ln, P2, k2⟩
      refine ⟨Nat.zero_le _, fun l hl => ?_⟩
      have ol := P2.off hl
      have hl0 := k2.free hl ol
      refine ⟨_, rfl, n, rfl, by omega, by omega, for_range (lo := 0) (n := (n : Int).toNat) (fun i σ H' => ∃ (zs : List Str) (y : Option V),
        σ = [some (.ref a.p), some (.int n), some (.str lettersS), some (.str nm), y, some (.ref l)] ∧ zs.length = i ∧ zs.Nodup ∧ (∀ z ∈ zs, GoodName z) ∧ H' l = some (.lst (zs.map V.str)) ∧ Pool H' a (c + 5 + i * 5) ∧ Kp a H H')
        ⟨[], _, rfl, rfl, List.nodup_nil, (fun z hz => absurd hz List.not_mem_nil), upd_same, ((P2.mono (by omega)).upd ol), k2.mut hl0⟩ ?_ ?_⟩
      · rintro i σ H3 hi ⟨zs, y', rfl, lz, nz, gz, hz, P3, k3⟩
        refine ⟨_, rfl, .inl ⟨rfl, _, SqL.of hz⟩, _, rfl, _, rfl, _, rfl, a, _, nm, l, zs, rfl, P3, by omega, hz, ol, an, by omega, by omega, fun H4 z g4 n4 P4 k4 => ?_⟩
        have hz4 := k4 _ _ hz ol
        refine ⟨l, _, _, rfl, rfl, hz4, szLt (by rw [List.length_map]; omega), zs ++ [z], _, rfl, ?_, ?_, ?_, ?_, ?_, ?_⟩
        · rw [List.length_append, lz]
          rfl
        · rw [List.nodup_append]
          refine ⟨nz, by simp, fun x hx y hy e => ?_⟩
          have : y = z := by simpa using hy
          rw [this] at e
          exact n4 (by rw [← e]; exact hx)
        · intro x hx
          rcases List.mem_append.mp hx with hx | hx
          · exact gz x hx
          · have : x = z := by simpa using hx
            rw [this]
            exact g4
        · rw [upd_same, List.map_append]
          rfl
        · rw [show c + 5 + (i + 1) * 5 = c + 5 + i * 5 + 5 by omega]
          exact P4.upd ol
        · exact (k3.trans k4).mut hl0
      · rintro σ H3 ⟨zs, y', rfl, lz, nz, gz, hz, P3, k3⟩
        rw [Int.toNat_natCast] at lz P3
        exact ⟨_, rfl, q _ l zs P3 k3 hz ol nz gz lz⟩
end

/-! ### sayings as data -/
inductive Row where
  | mark (z : Str)
  | word (x : Str) (ns : List Int)
  | run (x f : Str) (ns : List Int)
def Row.enc : Row → List V
  | .mark z => [.str "mark", .str z]
  | .word x ns => .str x :: ns.map V.int
  | .run x f ns => .str x :: .str f :: ns.map V.int
def partsL : List (Str × Nat) := [("yes", 0), ("no", 0), ("not", 1), ("and", 2), ("or", 2), ("step", 1)]
def formsL : List (Str × Nat) := [("next", 1), ("once", 1), ("ever", 1), ("until", 2), ("unless", 2)]
def whoseL : List Str := ["some", "all"]
def GoodRow (k : Nat) : Row → Prop
  | .mark z => GoodName z
  | .word x ns => (x, ns.length) ∈ partsL ∧ ∀ n ∈ ns, 0 ≤ n ∧ n < k
  | .run x f ns => x ∈ whoseL ∧ (f, ns.length) ∈ formsL ∧ ∀ n ∈ ns, 0 ≤ n ∧ n < k
def Row.nums : Row → List Int
  | .mark _ => []
  | .word _ ns => ns
  | .run _ _ ns => ns
structure SayAt (K : PySem.W.Frag) (H : Hp) (t : Addr) (rows : List Row) : Prop where
  ex : ∃ ra : List Addr, SqT K H t (ra.map V.ref) ∧ Each (fun a r => SqT K H a r.enc) ra rows
theorem SayAt.imm {K : PySem.W.Frag} {H H' : Hp} {t : Addr} {rows : List Row} (S : SayAt K H t rows) (e : Imm H H') : SayAt K H' t rows := by
  obtain ⟨ra, h1, h2⟩ := S.ex
  exact ⟨ra, e.sq h1, h2.imp fun _ _ h => e.sq h⟩
structure GoodSay (rows : List Row) : Prop where
  lo : 1 ≤ rows.length
  hi : rows.length ≤ 160
  gr : ∀ i r, rows[i]? = some r → GoodRow i r
theorem cut_from {xs : List V} {k : Nat} (h : k ≤ xs.length) : cutV xs (some (k : Int)) none = xs.drop k := by
  unfold cutV
  rw [show HT.sIx xs.length 0 (some (k : Int)) = min k xs.length from HT.sIx_nat xs.length 0 k, HT.sIx_none, Nat.min_eq_left h]
  rw [← List.length_drop, List.take_length]
theorem not_whole {n k : Nat} (h : k ≤ n) (h0 : 0 < k) : ¬ (HT.sIx n 0 (some (k : Int)) = 0 ∧ HT.sIx n n none = n) := fun e => by
  have e1 := e.1
  rw [show HT.sIx n 0 (some (k : Int)) = min k n from HT.sIx_nat n 0 k, Nat.min_eq_left h] at e1
  omega
structure Wf (K : PySem.W.Frag) (w : World) (mg : Str → Option Value) where
  aH : Addr
  aP : Addr
  aF : Addr
  eP : Array DictEntry
  nP : Nat
  eF : Array DictEntry
  nF : Nat
  uL : Value
  gWHOSE : mg "WHOSE" = some (.ref aH)
  rWHOSE : RelV (.ref aH) (.ref aH)
  sH : ∀ H, SqT K H aH (whoseL.map V.str)
  gPARTS : mg "PARTS" = some (.ref aP)
  rPARTS : RelV (.ref aP) (.ref aP)
  dPARTS : KDict K w aP eP nP
  gFORMS : mg "FORMS" = some (.ref aF)
  rFORMS : RelV (.ref aF) (.ref aF)
  dFORMS : KDict K w aF eF nF
  gLONGEST : mg "LONGEST" = some uL
  rLONGEST : RelV (.int 160) uL
  kP : ∀ p ∈ partsL, ∃ u, PySem.W.nsIn K aP p.1 = some (some u) ∧ RelV (.int p.2) u
  kF : ∀ p ∈ formsL, ∃ u, PySem.W.nsIn K aF p.1 = some (some u) ∧ RelV (.int p.2) u

/-! ### the law's own rows and sayings -/
theorem good_unborne : GoodName (Str.ofString "unborne") := ⟨by decide +kernel, by decide +kernel, by decide +kernel, by decide +kernel⟩
abbrev s_law_row : Stmt := topS 26
theorem sc_law_row : FnScope ["_law_pool_here", "_law_names_here", "_law_at", "_law_kind", "_law_one", "_law_other", "_law_which", "_law_word"] ["_law_pool_here", "_law_names_here", "_law_at"] (defScope s_law_row) := ⟨rfl, rfl, rfl, by decide +kernel, rfl, by decide +kernel, by decide +kernel⟩
abbrev s_law_saying : Stmt := topS 27
theorem sc_law_saying : FnScope ["_law_pool_here", "_law_names_here", "_law_most", "_law_rows", "_law_k"] ["_law_pool_here", "_law_names_here", "_law_most"] (defScope s_law_saying) := ⟨rfl, rfl, rfl, by decide +kernel, rfl, by decide +kernel, by decide +kernel⟩
theorem ndec {p : Prop} [Decidable p] (h : ¬ decide p = true) : ¬ p := fun x => h (decide_eq_true x)
section
variable {P : Program} {w : World} {K : PySem.W.Frag} {mg : Str → Option Value} {base : Heap}
def spLRow (K : PySem.W.Frag) : Sp := fun vs H Q _ => ∃ (a : PA) (c : Nat) (l : Addr) (zs : List Str) (k : Nat), vs = [.ref a.p, .ref l, .int k] ∧ Pool H a c ∧ c < 700000 ∧ H l = some (.lst (zs.map V.str)) ∧ Off a l ∧ (∀ z ∈ zs, GoodName z) ∧ zs.length ≤ 8 ∧ k ≤ 160 ∧
  ∀ (H' : Hp) (t : Addr) (r : Row), Pool H' a (c + 3) → Kp a H H' → SqT K H' t r.enc → GoodRow k r → Q (.ref t) H'
theorem ok_lrow {f : Addr} {fd : FuncData} (F : Fun K "_law_row" "_law_row" s_law_row f fd) (T : Bi mg) (c_law_draw : Cal P w K mg base 1 "_law_draw" ["_law_pool_here", "_law_many"] spDraw) : FnOk P w K mg base CX0 2 f fd ["_law_pool_here", "_law_names_here", "_law_at"] (spLRow K) := by
  refine F.ok sc_law_row (fun vs H Q E h => ?_) (fun cdv A outer s H vs Q E hr h => ?_)
  · obtain ⟨a, c, l, zs, k, rfl, _⟩ := h
    rfl
  · obtain ⟨a, c, l, zs, k, rfl, PP, hc, hl, ol, gz, lz, hk, q⟩ := h
    refine ⟨_, (pss_cons (ps_set (i := 3) sc_law_row.nd rfl (.inl rfl) (pe_call c_law_draw.G hr (by rfl) c_law_draw.g c_law_draw.kp c_law_draw.b .nil pass0 (pa_cons (pv 0) (pa_cons pe_int pa_nil))))
      (pss_cons (ps_if (PW.pt (pw_or (pt_cmpR op_eq (pv 2) pe_int (nomark _)) (pw_or1 (pt_cmpR op_lt (pv 3) pe_int (nomark _)))))
        (pss_cons (ps_set (i := 3) sc_law_row.nd rfl (.inl rfl) (pe_op op_mod (pv 3) pe_int))
        (pss_cons (ps_if (pt_cmpR op_gt (pv 3) pe_int (nomark _))
          (pss_one (ps_ret (pe_tup (pa_cons pe_str (pa_cons (pe_ix ix_list (pe_op op_cat (pv 1) (pe_lst (pa_cons pe_str pa_nil))) (pe_call c_law_draw.G hr (by rfl) c_law_draw.g c_law_draw.kp c_law_draw.b .nil pass0 (pa_cons (pv 0) (pa_cons (pe_op op_add (pe_callB call_len_seq (by rfl) T.len PySem.boot_len (pa_cons (pv 1) pa_nil)) pe_int) pa_nil))) (fun _ _ => rfl)) pa_nil)))))
          pss_nil)
        (pss_one (ps_ret (pe_tup (pa_cons (pe_ix ix_list (pe_lst (pa_cons pe_str (pa_cons pe_str pa_nil))) (pv 3) (fun _ _ => rfl)) pa_nil))))))
        pss_nil)
      (pss_cons (ps_set (i := 4) sc_law_row.nd rfl (.inl rfl) (pe_op op_sub (pe_op op_sub (pv 2) pe_int) (pe_call c_law_draw.G hr (by rfl) c_law_draw.g c_law_draw.kp c_law_draw.b .nil pass0 (pa_cons (pv 0) (pa_cons (pe_callB (call_min2 rfl) (by rfl) T.min (by decide +kernel) (pa_cons (pv 2) (pa_cons pe_int pa_nil))) pa_nil)))))
      (pss_cons (ps_set (i := 5) sc_law_row.nd rfl (.inl rfl) (pe_call c_law_draw.G hr (by rfl) c_law_draw.g c_law_draw.kp c_law_draw.b .nil pass0 (pa_cons (pv 0) (pa_cons (pv 2) pa_nil))))
      (pss_cons (ps_if (pt_cmpR op_lt (pv 3) pe_int (nomark _))
        (pss_one (ps_ret (pe_ix ix_list (pe_lst (pa_cons (pe_tup (pa_cons pe_str (pa_cons (pv 4) pa_nil))) (pa_cons (pe_tup (pa_cons pe_str (pa_cons (pv 4) (pa_cons (pv 5) pa_nil)))) (pa_cons (pe_tup (pa_cons pe_str (pa_cons (pv 5) (pa_cons (pv 4) pa_nil)))) (pa_cons (pe_tup (pa_cons pe_str (pa_cons (pv 4) pa_nil))) pa_nil))))) (pe_op op_sub (pv 3) pe_int) (fun _ _ => rfl))))
        pss_nil)
      (pss_cons (ps_set (i := 6) sc_law_row.nd rfl (.inl rfl) (pe_ix ix_list (pe_lst (pa_cons pe_str (pa_cons pe_str pa_nil))) (pe_op op_mod (pv 3) pe_int) (fun _ _ => rfl)))
      (pss_cons (ps_set (i := 7) sc_law_row.nd rfl (.inl rfl) (pe_ix ix_list (pe_lst (pa_cons pe_str (pa_cons pe_str (pa_cons pe_str (pa_cons pe_str (pa_cons pe_str (pa_cons pe_str pa_nil))))))) (pe_op op_sub (pe_op op_fdiv (pv 3) pe_int) pe_int) (fun _ _ => rfl)))
      (pss_cons (ps_if (PW.pt (pw_or (pt_cmpR op_eq (pv 7) pe_str (nomark _)) (pw_or1 (pt_cmpR op_eq (pv 7) pe_str (nomark _)))))
        (pss_one (ps_ret (pe_tup (pa_cons (pv 6) (pa_cons (pv 7) (pa_cons (pv 5) (pa_cons (pv 4) pa_nil)))))))
        pss_nil)
      (pss_one (ps_ret (pe_tup (pa_cons (pv 6) (pa_cons (pv 7) (pa_cons (pv 4) pa_nil)))))))))))))), ?_⟩
    refine ⟨_, rfl, a, c, 20, rfl, PP, by omega, by decide, by decide, fun H1 r r0 r1 P1 k1 => ?_⟩
    obtain ⟨kd, rfl⟩ : ∃ j : Nat, r = (j : Int) := ⟨r.toNat, by omega⟩
    have hl1 := k1 _ _ hl ol
    have h6 : (0 : Int) ≤ kd % 6 ∧ (kd : Int) % 6 < 6 := ⟨Int.emod_nonneg _ (by decide), Int.emod_lt_of_pos _ (by decide)⟩
    refine ⟨_, rfl, rfl, _, rfl, ite2 (fun e => ?lowa) (fun e => ⟨_, rfl, _, _, rfl, rfl, _, rfl, ite2 (fun e2 => ?lowb) (fun e2 => ?high)⟩)⟩
    case lowa | lowb =>
      refine ⟨_, rfl, _, _, rfl, rfl, (by show (0 : Int) < _; decide), _, rfl, _, _, rfl, rfl, _, rfl, ite2 (fun e => ?_) (fun e => ?_)⟩
      · refine ⟨_, rfl, by show 1 ≤ sizeLine; decide, fun u hu => ?_⟩
        have ou := P1.off hu
        have hl2 := (same_upd (o := .lst [.str "unborne"]) hu) _ _ hl1
        refine ⟨l, u, _, _, rfl, rfl, hl2, upd_same, szOk (by rw [List.length_map]; show zs.length + 1 ≤ _; omega), fun b hb => ?_⟩
        have P2 := P1.upd (o := .lst [.str "unborne"]) ou
        have ob := P2.off hb
        have P3 := P2.upd (o := .lst (zs.map V.str ++ [.str "unborne"])) ob
        refine ⟨_, rfl, _, rfl, l, _, rfl, .inl (SqL.of ((same_upd hb) _ _ hl2)), _, _, rfl, rfl, a, _, ((zs.length + 1 : Nat) : Int), ?_, P3, by omega, by omega, by omega, fun H4 r4 r40 r41 P4 k4 => ?_⟩
        · rw [List.length_map]
          rfl
        · obtain ⟨j, rfl⟩ : ∃ j : Nat, r4 = (j : Int) := ⟨r4.toNat, by omega⟩
          have k2 : Kp a H1 (upd (upd H1 u (.lst [.str "unborne"])) b (.lst (zs.map V.str ++ [.str "unborne"]))) := (skp (same_upd hu)).trans (skp (same_upd hb))
          have hb4 := k4 _ _ upd_same ob
          obtain ⟨z, hz1, hz2⟩ : ∃ z, (zs.map V.str ++ [V.str "unborne"])[j]? = some (.str z) ∧ GoodName z := by
            by_cases hj : j < zs.length
            · refine ⟨zs[j], ?_, gz _ (List.getElem_mem hj)⟩
              rw [List.getElem?_append_left (by rw [List.length_map]; exact hj)]
              exact get_map (List.getElem?_eq_getElem hj)
            · refine ⟨_, ?_, good_unborne⟩
              rw [show j = zs.length by omega, List.getElem?_append_right (by rw [List.length_map]; exact Nat.le_refl _), List.length_map, Nat.sub_self]
              rfl
          refine ⟨b, _, _, _, rfl, rfl, SqL.of hb4, atI_nat hz1, by show 2 ≤ sizeLine; decide, fun t ht => ?_⟩
          exact q _ t (.mark z) ((P4.same (same_upd ht)).mono (by omega)) ((((k1.trans k2).trans k4)).trans (skp (same_upd ht))) (SqT.of upd_same) hz2
      · have e9 := ndec e
        have e8 : (kd : Int) % 6 = 0 ∨ (kd : Int) % 6 = 1 := by omega
        refine ⟨by show 2 ≤ sizeLine; decide, fun u hu => ?_⟩
        have P2 := P1.upd (o := .lst [.str "yes", .str "no"]) (P1.off hu)
        rcases e8 with e8 | e8
        · refine ⟨_, rfl, u, _, _, .str "yes", rfl, rfl, SqL.of upd_same, by rw [e8]; rfl, by show 1 ≤ sizeLine; decide, fun t ht => ?_⟩
          exact q _ t (.word "yes" []) ((P2.same (same_upd ht)).mono (by omega)) ((k1.trans (skp (same_upd hu))).trans (skp (same_upd ht))) (SqT.of upd_same) ⟨by decide +kernel, fun _ h => absurd h List.not_mem_nil⟩
        · refine ⟨_, rfl, u, _, _, .str "no", rfl, rfl, SqL.of upd_same, by rw [e8]; rfl, by show 1 ≤ sizeLine; decide, fun t ht => ?_⟩
          exact q _ t (.word "no" []) ((P2.same (same_upd ht)).mono (by omega)) ((k1.trans (skp (same_upd hu))).trans (skp (same_upd ht))) (SqT.of upd_same) ⟨by decide +kernel, fun _ h => absurd h List.not_mem_nil⟩
    case high =>
      have e1 : ¬ (k : Int) = 0 := fun h => e (decide_eq_true (by rw [h]))
      have e3 := ndec e2
      refine ⟨_, rfl, _, _, rfl, rfl, _, rfl, _, rfl, _, _, rfl, a, _, (((if k < 3 then k else 3 : Nat)) : Int), ?_, P1, by omega, by split <;> omega, by split <;> omega, fun H2 d1 d10 d11 P2 k2 => ⟨_, _, rfl, rfl, ?_⟩⟩
      · show [V.ref a.p, V.int (if (3 : Int) < (k : Int) then 3 else (k : Int))] = _
        by_cases h3 : k < 3
        · rw [if_pos h3, if_neg (by omega)]
        · rw [if_neg h3]
          by_cases h4 : (3 : Int) < k
          · rw [if_pos h4]; rfl
          · rw [if_neg h4, show (k : Int) = 3 by omega]; rfl
      have d12 : d1 < k := by
        by_cases h3 : k < 3
        · rw [if_pos h3] at d11; exact d11
        · rw [if_neg h3] at d11; omega
      refine ⟨_, rfl, _, rfl, a, _, (k : Int), rfl, P2, by omega, by omega, by omega, fun H3 d2 d20 d21 P3 k3 => ⟨_, rfl, _, _, rfl, rfl, _, rfl, ite2 (fun e4 => ?_) (fun e4 => ?_)⟩⟩
      all_goals
        have P3' : Pool H3 a (c + 3) := P3.mono (by omega)
        have k3' := (k1.trans k2).trans k3
        have o1 : 0 ≤ ((k : Int) - 1 - d1) ∧ ((k : Int) - 1 - d1) < (k : Int) := by omega
        have o2 : 0 ≤ d2 ∧ d2 < (k : Int) := ⟨d20, d21⟩
        have i1 : ∀ n ∈ [((k : Int) - 1 - d1)], 0 ≤ n ∧ n < (k : Int) := fun n hn => by rw [List.mem_singleton] at hn; rw [hn]; exact o1
        have i2 : ∀ n ∈ [((k : Int) - 1 - d1), d2], 0 ≤ n ∧ n < (k : Int) := fun n hn => by
          rcases List.mem_cons.mp hn with hn | hn
          · rw [hn]; exact o1
          · rw [List.mem_singleton] at hn; rw [hn]; exact o2
        have i3 : ∀ n ∈ [d2, ((k : Int) - 1 - d1)], 0 ≤ n ∧ n < (k : Int) := fun n hn => by
          rcases List.mem_cons.mp hn with hn | hn
          · rw [hn]; exact o2
          · rw [List.mem_singleton] at hn; rw [hn]; exact o1
      · have e5 := of_decide_eq_true e4
        refine ⟨_, rfl, by show 2 ≤ sizeLine; decide, fun t1 h1 => ⟨_, rfl, _, rfl, by show 3 ≤ sizeLine; decide, fun t2 h2 => ⟨_, rfl, _, rfl, by show 3 ≤ sizeLine; decide, fun t3 h3 => ⟨_, rfl, by show 2 ≤ sizeLine; decide, fun t4 h4 => ⟨by show 4 ≤ sizeLine; decide, fun L hL => ?_⟩⟩⟩⟩⟩
        have m1 := same_upd (o := .tup [.str "not", .int ((k : Int) - 1 - d1)]) h1
        have m2 := same_upd (o := .tup [.str "and", .int ((k : Int) - 1 - d1), .int d2]) h2
        have m3 := same_upd (o := .tup [.str "or", .int d2, .int ((k : Int) - 1 - d1)]) h3
        have m4 := same_upd (o := .tup [.str "step", .int ((k : Int) - 1 - d1)]) h4
        have m5 := same_upd (o := .lst [.ref t1, .ref t2, .ref t3, .ref t4]) hL
        have all := (((m1.trans m2).trans m3).trans m4).trans m5
        have a1 : SqT K _ t1 (Row.word "not" [((k : Int) - 1 - d1)]).enc := ssqt (((m2.trans m3).trans m4).trans m5) (SqT.of upd_same)
        have a2 : SqT K _ t2 (Row.word "and" [((k : Int) - 1 - d1), d2]).enc := ssqt ((m3.trans m4).trans m5) (SqT.of upd_same)
        have a3 : SqT K _ t3 (Row.word "or" [d2, ((k : Int) - 1 - d1)]).enc := ssqt (m4.trans m5) (SqT.of upd_same)
        have a4 : SqT K _ t4 (Row.word "step" [((k : Int) - 1 - d1)]).enc := ssqt m5 (SqT.of upd_same)
        have e6 : kd = 4 ∨ kd = 5 ∨ kd = 6 ∨ kd = 7 := by omega
        have PL := P3'.same all
        have kL := k3'.trans (skp all)
        rcases e6 with rfl | rfl | rfl | rfl
        · exact ⟨_, rfl, _, _, rfl, rfl, L, _, _, _, rfl, rfl, SqL.of upd_same, at_of (j := 0) rfl rfl, q _ t1 _ PL kL a1 ⟨(by decide +kernel : (Str.ofString "not", 1) ∈ partsL), i1⟩⟩
        · exact ⟨_, rfl, _, _, rfl, rfl, L, _, _, _, rfl, rfl, SqL.of upd_same, at_of (j := 1) rfl rfl, q _ t2 _ PL kL a2 ⟨(by decide +kernel : (Str.ofString "and", 2) ∈ partsL), i2⟩⟩
        · exact ⟨_, rfl, _, _, rfl, rfl, L, _, _, _, rfl, rfl, SqL.of upd_same, at_of (j := 2) rfl rfl, q _ t3 _ PL kL a3 ⟨(by decide +kernel : (Str.ofString "or", 2) ∈ partsL), i3⟩⟩
        · exact ⟨_, rfl, _, _, rfl, rfl, L, _, _, _, rfl, rfl, SqL.of upd_same, at_of (j := 3) rfl rfl, q _ t4 _ PL kL a4 ⟨(by decide +kernel : (Str.ofString "step", 1) ∈ partsL), i1⟩⟩
      · have e5 := ndec e4
        have c2 : (kd : Int) % 2 = 0 ∨ (kd : Int) % 2 = 1 := by omega
        obtain ⟨wh, hw, hw2⟩ : ∃ wh, atI [V.str "some", .str "all"] ((kd : Int) % 2) = some (.str wh) ∧ wh ∈ whoseL := by
          rcases c2 with c2 | c2
          · exact ⟨"some", by rw [c2]; rfl, by decide +kernel⟩
          · exact ⟨"all", by rw [c2]; rfl, by decide +kernel⟩
        obtain ⟨wd, hd, hd2⟩ : ∃ wd, atI [V.str "next", .str "once", .str "ever", .str "until", .str "unless", .str "until"] ((kd : Int) / 2 - 4) = some (.str wd) ∧ (((wd = Str.ofString "until" ∨ wd = Str.ofString "unless") ∧ (wd, 2) ∈ formsL) ∨ (¬ wd = Str.ofString "until" ∧ ¬ wd = Str.ofString "unless" ∧ (wd, 1) ∈ formsL)) := by
          have e6 : (kd : Int) / 2 = 4 ∨ (kd : Int) / 2 = 5 ∨ (kd : Int) / 2 = 6 ∨ (kd : Int) / 2 = 7 ∨ (kd : Int) / 2 = 8 ∨ (kd : Int) / 2 = 9 := by omega
          rcases e6 with e6 | e6 | e6 | e6 | e6 | e6 <;> rw [e6]
          · exact ⟨"next", rfl, .inr (by decide +kernel)⟩
          · exact ⟨"once", rfl, .inr (by decide +kernel)⟩
          · exact ⟨"ever", rfl, .inr (by decide +kernel)⟩
          · exact ⟨"until", rfl, .inl (by decide +kernel)⟩
          · exact ⟨"unless", rfl, .inl (by decide +kernel)⟩
          · exact ⟨"until", rfl, .inl (by decide +kernel)⟩
        refine ⟨by show 2 ≤ sizeLine; decide, fun t1 h1 => ⟨_, rfl, _, _, rfl, rfl, (by show (0 : Int) < _; decide), t1, _, _, _, rfl, rfl, SqL.of upd_same, hw, ?_⟩⟩
        refine ⟨by show 6 ≤ sizeLine; decide, fun t2 h2 => ⟨_, rfl, _, _, rfl, rfl, ⟨by decide, by decide⟩, _, _, rfl, rfl, t2, _, _, _, rfl, rfl, SqL.of upd_same, hd, ?_⟩⟩
        have m12 := (same_upd (o := .lst [.str "some", .str "all"]) h1).trans (same_upd (o := .lst [.str "next", .str "once", .str "ever", .str "until", .str "unless", .str "until"]) h2)
        have PL := P3'.same m12
        have kL := k3'.trans (skp m12)
        refine ⟨_, rfl, rfl, _, rfl, ite2 (fun x1 => ?wa) (fun x1 => ⟨_, rfl, rfl, _, rfl, ite2 (fun x2 => ?wb) (fun x2 => ?wc)⟩)⟩
        case wa | wb =>
          have hw3 : (wd, 2) ∈ formsL := by
            rcases hd2 with ⟨_, h⟩ | ⟨n1, n2, _⟩
            · exact h
            · first
              | exact absurd (of_decide_eq_true x2) (fun q => n2 (V.str.inj q))
              | exact absurd (of_decide_eq_true x1) (fun q => n1 (V.str.inj q))
          refine ⟨_, rfl, _, rfl, _, rfl, _, rfl, by show 4 ≤ sizeLine; decide, fun t ht => ?_⟩
          exact q _ t (.run wh wd [d2, (k : Int) - 1 - d1]) (PL.same (same_upd ht)) (kL.trans (skp (same_upd ht))) (SqT.of upd_same) ⟨hw2, hw3, i3⟩
        case wc =>
          have hw3 : (wd, 1) ∈ formsL := by
            rcases hd2 with ⟨h | h, _⟩ | ⟨_, _, h⟩
            · exact absurd (by rw [h]) (ndec x1)
            · exact absurd (by rw [h]) (ndec x2)
            · exact h
          refine ⟨_, rfl, _, rfl, _, rfl, by show 3 ≤ sizeLine; decide, fun t ht => ?_⟩
          exact q _ t (.run wh wd [(k : Int) - 1 - d1]) (PL.same (same_upd ht)) (kL.trans (skp (same_upd ht))) (SqT.of upd_same) ⟨hw2, hw3, i1⟩
def spSaying (K : PySem.W.Frag) : Sp := fun vs H Q _ => ∃ (a : PA) (c : Nat) (l : Addr) (zs : List Str) (m : Int), vs = [.ref a.p, .ref l, .int m] ∧ Pool H a c ∧ c < 600000 ∧ H l = some (.lst (zs.map V.str)) ∧ Off a l ∧ (∀ z ∈ zs, GoodName z) ∧ zs.length ≤ 8 ∧ 0 < m ∧ m ≤ 160 ∧
  ∀ (H' : Hp) (t : Addr) (rows : List Row), Pool H' a (c + 481) → Kp a H H' → SayAt K H' t rows → GoodSay rows → Q (.ref t) H'
theorem ok_saying {f : Addr} {fd : FuncData} (F : Fun K "_law_saying" "_law_saying" s_law_saying f fd) (T : Bi mg) (c_law_draw : Cal P w K mg base 1 "_law_draw" ["_law_pool_here", "_law_many"] spDraw) (c_law_row : Cal P w K mg base 2 "_law_row" ["_law_pool_here", "_law_names_here", "_law_at"] (spLRow K)) : FnOk P w K mg base CX0 3 f fd ["_law_pool_here", "_law_names_here", "_law_most"] (spSaying K) := by
  refine F.ok sc_law_saying (fun vs H Q E h => ?_) (fun cdv A outer s H vs Q E hr h => ?_)
  · obtain ⟨a, c, l, zs, m, rfl, _⟩ := h
    rfl
  · obtain ⟨a, c, l, zs, m, rfl, PP, hc, hl, ol, gz, lz, m0, m1, q⟩ := h
    refine ⟨_, (pss_cons (ps_set (i := 3) sc_law_saying.nd rfl (.inl rfl) (pe_lst pa_nil))
      (pss_cons (ps_for PassesOwn.never rfl (pi_range1 (by rfl) T.range (pa_cons (pe_op op_add pe_int (pe_call c_law_draw.G (hr.mono (by decide)) (by rfl) c_law_draw.g c_law_draw.kp c_law_draw.b .nil pass0 (pa_cons (pv 0) (pa_cons (pv 2) pa_nil)))) pa_nil)) (pg_name (i := 4) sc_law_saying.nd rfl (.inl rfl))
        (pss_one (ps_expr (pe_bm PySem.F.plainAttrs_list PySem.F.slot_list_append PySem.F.type_list_append mt_append (pv 3) (pa_cons (pe_call c_law_row.G hr (by rfl) c_law_row.g c_law_row.kp c_law_row.b .nil pass0 (pa_cons (pv 0) (pa_cons (pv 1) (pa_cons (pv 4) pa_nil)))) pa_nil)))))
      (pss_one (ps_ret (pe_callTy call_tuple_of (by rfl) T.tuple (by decide +kernel) (pa_cons (pv 3) pa_nil)))))), ?_⟩
    refine ⟨Nat.zero_le _, fun lr hlr => ?_⟩
    have olr := PP.off hlr
    refine ⟨_, rfl, _, rfl, a, c, m, rfl, PP.upd olr, by omega, m0, by omega, fun H1 r r0 r1 P1 k1 => ⟨_, _, rfl, rfl, 1 + r, rfl, by omega, by omega, for_range (lo := 0) (n := (1 + r).toNat) (fun i σ H' => ∃ (ra : List Addr) (rows : List Row) (y : Option V),
      σ = [some (.ref a.p), some (.ref l), some (.int m), some (.ref lr), y] ∧ Pool H' a (c + 1 + i * 3) ∧ Kp a H H' ∧ H' lr = some (.lst (ra.map V.ref)) ∧ Each (fun a r => SqT K H' a r.enc) ra rows ∧ rows.length = i ∧ (∀ j r, rows[j]? = some r → GoodRow j r))
      ⟨[], [], none, rfl, P1, ((Kp.refl H).mut hlr).trans k1, k1 _ _ upd_same olr, .nil, rfl, fun _ _ h => nomatch h⟩ ?_ ?_⟩⟩
    · rintro i σ H3 hi ⟨ra, rows, y, rfl, P3, k3, h3, e3, l3, g3⟩
      have i160 : i < 160 := by omega
      refine ⟨_, rfl, .inl ⟨rfl, _, SqL.of h3⟩, _, rfl, _, rfl, _, rfl, a, _, l, zs, i, by rw [Int.zero_add] <;> rfl, P3, by omega, k3 _ _ hl ol, ol, gz, lz, by omega, fun H4 t r' P4 k4 ht gr => ?_⟩
      have h4 := k4 _ _ h3 olr
      have wl := e3.len
      refine ⟨lr, _, _, rfl, rfl, h4, szLt (by rw [List.length_map]; omega), ?_⟩
      have e34 := (P3.imm k4).trans (Imm.list (o := .lst (ra.map V.ref ++ [.ref t])) h4)
      refine ⟨ra ++ [t], rows ++ [r'], some (.int (0 + i)), rfl, ?_, (k3.trans k4).mut hlr, ?_, ?_, ?_, ?_⟩
      · rw [show c + 1 + (i + 1) * 3 = c + 1 + i * 3 + 3 by omega]
        exact P4.upd olr
      · rw [upd_same, List.map_append]
        rfl
      · exact Each.snoc (R := fun a (r : Row) => SqT K (L2.upd H4 lr (.lst (ra.map V.ref ++ [.ref t]))) a r.enc) ((Imm.list (o := .lst (ra.map V.ref ++ [.ref t])) h4).sq ht) (e3.imp fun _ _ h => e34.sq h)
      · rw [List.length_append, l3]
        rfl
      · intro j r hj
        by_cases hji : j < rows.length
        · rw [List.getElem?_append_left hji] at hj
          exact g3 j r hj
        · rw [List.getElem?_append_right (by omega)] at hj
          have hj0 : j = i := by
            have := (List.getElem?_eq_some_iff.mp hj).1
            simp only [List.length_singleton] at this
            omega
          rw [hj0, l3, Nat.sub_self] at hj
          cases hj
          rw [hj0]
          exact gr
    · rintro σ H3 ⟨ra, rows, y, rfl, P3, k3, h3, e3, l3, g3⟩
      refine ⟨_, rfl, lr, _, rfl, .inl ⟨SqL.of h3, fun t ht => ?_⟩⟩
      exact q _ t rows ((P3.same (same_upd ht)).mono (by omega)) (k3.trans (skp (same_upd ht))) ⟨ra, SqT.of upd_same, e3.imp fun _ _ h => (Imm.new ht).sq h⟩ ⟨by omega, by omega, g3⟩
end

/-! ### t[::-1], t a tuple -/
namespace BkT
open PySem PySem.Spec PyProof.Rows L2
section
variable {prog : Program} {w : World} {A : Around} {E : Value → Shared → Prop} {s : Shared}
theorem fm {α β : Type} {f g : α → Option β} : ∀ {l : List α}, (∀ x ∈ l, f x = g x) → l.filterMap f = l.filterMap g
  | [], _ => rfl
  | x :: r, h => by
    rw [List.filterMap_cons, List.filterMap_cons, h x List.mem_cons_self, fm fun y hy => h y (List.mem_cons_of_mem _ hy)]
theorem adj (n : Nat) : Builtin.Slice.sliceAdjust none none (-1) (n : Int) = ((n : Int) - 1, -1) := by
  unfold Builtin.Slice.sliceAdjust
  simp
theorem plc (n : Nat) : Builtin.Slice.slicePlaces ((n : Int) - 1) (-1) (-1) = n := by
  unfold Builtin.Slice.slicePlaces
  simp
  omega
theorem picked (xs : Array Value) : (List.range xs.size).filterMap (fun (k : Nat) => xs[(((xs.size : Int) - 1) + (k : Int) * (-1)).toNat]?) = xs.toList.reverse := by
  have h : (List.range xs.size).filterMap (fun (k : Nat) => xs[(((xs.size : Int) - 1) + (k : Int) * (-1)).toNat]?) = (List.range xs.size).filterMap ((fun j => xs[j]?) ∘ fun k => xs.size - 1 - k) := by
    refine fm fun k hk => ?_
    have := List.mem_range.mp hk
    show xs[(((xs.size : Int) - 1) + (k : Int) * (-1)).toNat]? = xs[xs.size - 1 - k]?
    congr 1
    omega
  rw [h, ← List.filterMap_map, show ((List.range xs.size).map fun k => xs.size - 1 - k) = (List.range xs.size).reverse from by
    refine List.ext_getElem (by simp) fun i h1 h2 => ?_
    simp, List.filterMap_reverse]
  congr 1
  have := pick_run xs 0 xs.size
  rw [List.filterMap_map, List.drop_zero, List.take_of_length_le (by simp)] at this
  rw [← this]
  refine fm fun k _ => ?_
  show xs[k]? = xs[0 + k]?
  rw [Nat.zero_add]
theorem got {t sl : Addr} {items : Array Value} {vk : Value} {Q : Value → Shared → Prop} (ht : IsTup s.heap t items) (hs : s.heap.IsSliceOf sl .none .none vk) (pk : IsPart vk (some (-1)))
    (h : Q (.ref s.heap.objs.size) { s with heap := s.heap.push { cls := .type "tuple", data := .seq items.toList.reverse.toArray } }) (hz : items.size ≤ sizeLine) : wpAny (model prog w) A (getItem (.ref t) (.ref sl)) Q E s := by
  obtain ⟨os, hos, hcs, hds⟩ := id hs
  have hTs : s.TypeIs (.ref sl) "slice" := ⟨os, hos, hcs⟩
  cases pk with
  | int i tk =>
  unfold getItem
  try with_reducible refine wpAny_holding ?_
  first | refine wpAny_bind (wpAny_pure ?_) | skip
  refine wpAny_bind (wpAny_sequenceKey ht.typeIs (by decide) ?_)
  refine wpAny_bind (wpAny_callSpecial?_slot (name := Str.ofString "__getitem__") ht.typeIs PyProof.Rows.slot_tuple_getitem
    (wpAny_call_entry PyProof.Rows.slot_tuple_getitem ht.typeIs entry_tuple_getitem ?_ (args_tuple_getitem _ _)))
  change wpAny _ _ (Builtin.Tuple.tupleItemsOf (.ref t) >>= _) _ _ s
  refine wpAny_bind (tupleItemsOf_ ht (wpAny_bind (wpAny_typeOf hTs ?_)))
  rw [if_pos (by decide)]
  refine wpAny_bind ?_
  unfold Builtin.Slice.sliceApplied Builtin.Slice.sliceFields
  refine wpAny_bind (wpAny_bind (wpAny_field hos hds (x := .none) rfl (wpAny_bind (wpAny_field hos hds (x := .none) rfl (wpAny_bind (wpAny_field hos hds (x := .int (-1) tk) rfl (wpAny_pure ?_)))))))
  refine wpAny_bind (slicePart_int ?_)
  change wpAny _ _ (if ((-1 : Int) == 0) = true then _ else _) _ _ s
  rw [if_neg (by decide)]
  refine wpAny_bind (slicePart_none (wpAny_bind (slicePart_none (wpAny_bind (wpAny_pure ?_)))))
  change wpAny _ _ (match Builtin.Slice.sliceAdjust none none (-1) (items.size : Int) with | (lo, hi) => pure (lo, (-1 : Int), Builtin.Slice.slicePlaces lo hi (-1))) _ _ s
  rw [adj]
  change wpAny _ _ (pure (((items.size : Int) - 1), (-1 : Int), Builtin.Slice.slicePlaces ((items.size : Int) - 1) (-1) (-1))) _ _ s
  rw [plc]
  refine wpAny_pure ?_
  change wpAny _ _ (if (((items.size : Int) - 1) == 0 && (-1 : Int) == 1 && items.size == items.size) = true then _ else _) _ _ s
  rw [if_neg (by simp)]
  rw [picked]
  refine wpAny_bind ?_
  exact wpAny_newObj_type (wpAny_pure ⟨_, rfl, wpAny_pure h⟩) (by change items.toList.reverse.toArray.size ≤ sizeLine; simp; exact hz)
end
section
variable {X : Cx} {e : Expr} {te : TE} {tk : TO} {pos p2 p4 p5 : Pos} {j : Nat}
def tBack (K : PySem.W.Frag) (te : TE) (tk : TO) : TE := fun σ H Q => te σ H fun x H1 => tk σ H1 fun o H2 => o = some (-1) ∧ ∃ a xs, x = .ref a ∧ SqT K H2 a xs ∧ ∀ p, H2 p = none → Q (.ref p) (L2.upd H2 p (.tup xs.reverse))
theorem pe_back (he : PE X e te) (hk : PO X (some (.UnaryOp .USub (.Constant (.int 1) j p4) p5)) tk) : PE X (.Subscript e (.Slice none none (some (.UnaryOp .USub (.Constant (.int 1) j p4) p5)) p2) pos) (tBack X.K te tk) := by
  refine ⟨fun pins s σ H Q I h => ?_⟩
  refine Subscript_ (L2.thn (he.run pins s σ H _ I h) fun v s1 y => ?_)
  obtain ⟨x, H1, I1, r1, q1⟩ := y
  refine wpAny_Slice ?_
  rw [evalPart_none]
  refine wpAny_pure (wpAny_pure (L2.thn (hk.run pins s1 σ H1 _ I1 q1) fun vk s2 z => ?_))
  obtain ⟨o, H2, I2, pk, rfl, a, xs, rfl, hx, q⟩ := z
  cases r1
  have I3 : Inv X pins σ H2 { s2 with heap := s2.heap.push { cls := .type "slice", data := .fields #[.none, .none, vk] } } := I2.kept (t' := s2.toks) fun b ob q => Heap.get?_push_of_some _ q
  obtain ⟨its, r, ht, hz⟩ := I3.tuple hx
  have hl : its.toArray.size = xs.length := by rw [List.size_toArray]; exact r.length.symm
  change wpAny (model X.prog X.w) X.A (subscriptTail e (.Slice none none (some (.UnaryOp .USub (.Constant (.int 1) j p4) p5)) p2) (.ref a) (.ref s2.heap.objs.size)) (EP X pins σ Q) X.xe { s2 with heap := s2.heap.push { cls := .type "slice", data := .fields #[.none, .none, vk] } }
  refine tail_any (ops := [.ref a, .ref s2.heap.objs.size]) ht.typeIs PyProof.Rows.slot_tuple_getitem.lookup (got ht (Heap.IsSliceOf.new ..) pk ?_ (by rw [hl]; exact hz)) (by with_unfolding_all rfl)
  refine ⟨.ref _, _, I3.laid (o := .tup xs.reverse) (t' := s2.toks) (fun b ob q => Heap.get?_push_of_some _ q) (Nat.le_refl _) ?_, rfl, q _ (I3.hok.fresh (Nat.le_refl _))⟩
  refine ⟨by rw [List.length_reverse]; exact hz, its.reverse, ?_, IsTup.new _ _⟩
  exact r.reverse
end
end BkT

/-! ### tuple * k; tuple(d); a, b, *c = t -/
namespace R22
open PySem PySem.Spec PyProof.Rows L2
def rRepA (K : PySem.W.Frag) : R2 := fun x y H Q => ∃ l k xs, x = .ref l ∧ y = .int k ∧ SqT K H l xs ∧ xs ≠ [] ∧ 1 ≤ k ∧ k ≤ 1000 ∧ xs.length ≤ 1000 ∧ ((k = 1 ∧ Q (.ref l) H) ∨ (1 < k ∧ ∀ p, H p = none → Q (.ref p) (L2.upd H p (.tup (List.replicate k.toNat xs).flatten))))
theorem mul1 (l : Addr) (o : Obj) (items : Array Value) (n : Nat) (hc : o.cls = .type "tuple") (hd : o.data = .seq items n) (u : Tok) :
    Meets (Builtin.«tuple.__mul__» ⟨[.ref l, .int 1 u], []⟩) (fun _ R s => s.heap.get? l = some o ∧ R (.ok (.ret (.ref l))) s) :=
  .of_wp fun prog w A R s hyp => by
    obtain ⟨hp, gg, dd, tt, oo⟩ := s
    obtain ⟨at1, hyp⟩ := hyp
    have ix := AutoSeq1.idx_int
    obtain ⟨cls, di, da, sl⟩ := o
    simp only at hc hd
    subst hc hd
    wp_walk using AutoSeq1.wpAny_loadPart' at1
    exact ⟨_, rfl, hyp⟩
section
variable {X : Cx}
theorem op_repA : OpR X (binaryOp .Mult) (rRepA X.K) := by
  intro pins s σ H x y v u Q I rx ry hyp
  obtain ⟨l, k, xs, e1, e2, hT, hne, b1, b2, hz, hyp⟩ := hyp
  rcases hyp with ⟨k1, q⟩ | ⟨k1, q⟩
  · subst e1 e2 k1
    cases rx
    obtain ⟨t, rfl⟩ := ry
    obtain ⟨its, rv, ⟨ob, at1, hc, n, hd⟩, _⟩ := I.tuple hT
    have at2 := at1
    have ty : s.TypeIs (.ref l) "tuple" := ⟨ob, at1, hc⟩
    obtain ⟨cls, di, da, sl⟩ := ob
    simp only at hc hd
    subst hc hd
    exact wpAny_binaryOp_repeat_ref (T := "tuple") (U := "int") (by decide) ty (fun s' => typeIs_int s' 1 t) noFill_tuple_mul F.fills_int_mul F.slot_int_rmul repeat_tuple F.slot_int_index.lookup
      (call_meets F.slot_int_rmul (typeIs_int s 1 t) F.entry_int_rmul (F.args_int_rmul_2 _ _) (int_rmul_tuple 1 t l its.toArray n di sl)
        ⟨at1, rfl, ty, call_meets F.slot_tuple_mul ty F.entry_tuple_mul (F.args_tuple_mul_2 _ _) (mul1 l _ _ _ rfl rfl t) ⟨at2, .ref l, H, I, rfl, q⟩⟩)
  · exact op_repT pins s σ H x y v u Q I rx ry ⟨l, k, xs, e1, e2, hT, hne, by omega, b2, hz, q⟩
end
/-! tuple(d) -/
section
variable {prog : Program} {w : World} {A : Around} {E : Value → Shared → Prop} {s : Shared} {T : String} {r d : Addr} {n : Nat} {P : Nat → Value → Prop} {OK : Heap → Prop}
theorem collected {Q : List Value → Shared → Prop} (src : PySem.W.KdlSrc prog w T r d n P OK) (hh : A.handled = none) (ok : OK s.heap) (small : n ≤ sizeLine)
    (k : ∀ (g : Heap) (tk : Nat) (acc : Array Value), (∀ b o, s.heap.get? b = some o → g.get? b = some o) → ItemsOf P acc n → Q acc.toList { s with heap := g, toks := tk }) :
    wpAny (model prog w) A (collect (.ref r)) Q E s := by
  obtain ⟨l1, l2⟩ := src.there _ ok
  unfold collect
  refine wpAny_bind (wpAny_runValue (codeAny_builtin F.entry_proto_collect ?_)); rw [Around.under_plainId F.plain_proto_collect _]
  change wpAny _ A.in1 (newList [] >>= fun x => again (.builtin "list.__iadd__" ⟨[x, .ref r], []⟩)) _ _ s
  refine wpAny_bind (wpAny_newObj_type (wpAny_pure ⟨plainId_quiet F.plain_list_iadd _, codeAny_builtin F.entry_list_iadd ?_⟩))
  rw [Around.under_plainId F.plain_list_iadd _]
  change wpAny _ A.in1 (Builtin.List.listExtendWith (.ref s.heap.objs.size) (.ref r) (.ref s.heap.objs.size)) _ _ _
  have old : ∀ b o, s.heap.get? b = some o → (s.heap.push { cls := .type "list", data := .seq ([] : List Value).toArray }).get? b = some o := fun b o q => Heap.get?_push_of_some _ q
  have fin : ∀ (g : Heap) (tk : Nat) (acc : Array Value) (c : Nat), (∀ b o, s.heap.get? b = some o → g.get? b = some o) → ItemsOf P acc n → g.get? s.heap.objs.size = some { cls := .type "list", dict := none, data := .seq acc c, slots := #[] } →
      wpAny (model prog w) A (do match (← load s.heap.objs.size).data with | Data.seq xs _ => pure xs.toList | _ => unsupported "internal:collect") Q E { s with heap := g, toks := tk } := fun g tk acc c kp ac at1 => wpAny_bind (wpAny_load at1 (wpAny_pure (k g tk acc kp ac)))
  refine wpAny_mono (PySem.W.kdl_extend (A := A) (R := fun f s2 => ∃ g tk acc c, f = .ok (.ret (.ref s.heap.objs.size)) ∧ s2 = { s with heap := g, toks := tk } ∧ (∀ b o, s.heap.get? b = some o → g.get? b = some o) ∧ ItemsOf P acc n ∧ g.get? s.heap.objs.size = some { cls := .type "list", dict := none, data := .seq acc c, slots := #[] })
    (s := { s with heap := s.heap.push { cls := .type "list", data := .seq ([] : List Value).toArray } }) src hh (src.keep _ _ ok fun b _ o q => old b o q) s.heap.objs.size (Nat.ne_of_gt l1) (Nat.ne_of_gt l2) _ 0 (Heap.get?_push_size _ rfl)
    (fun g tk acc c kp at1 ac => ⟨g, tk, acc, c, rfl, rfl, fun b o q => kp b o (Nat.ne_of_lt (Heap.lt_size q)) (old b o q), ac, at1⟩) small) (fun f s2 x => ?_) (fun e s2 x => ?_)
  · cases f with
    | done f =>
      obtain ⟨g, tk, acc, c, e1, rfl, kp, ac, at1⟩ := x
      cases e1
      exact fin g tk acc c kp ac at1
    | again c' =>
      refine ⟨x.1, codeAny_mono x.2 fun f' s3 y => ?_⟩
      obtain ⟨g, tk, acc, c, rfl, rfl, kp, ac, at1⟩ := y
      exact fin g tk acc c kp ac at1
  · obtain ⟨g, tk, acc, c, e1, _⟩ := x
    cases e1
theorem newed {Q : Value → Shared → Prop} (src : PySem.W.KdlSrc prog w T r d n P OK) (hh : A.handled = none) (ok : OK s.heap) (small : n ≤ sizeLine)
    (k : ∀ (g : Heap) (tk : Nat) (acc : Array Value), (∀ b o, s.heap.get? b = some o → g.get? b = some o) → ItemsOf P acc n → Q (.ref g.objs.size) { s with heap := g.push { cls := .type "tuple", data := .seq acc }, toks := tk }) :
    codeAny (model prog w) A (.call (.builtin "tuple.__new__") ⟨[.type "tuple", .ref r], []⟩) (wants Q E) s := by
  refine codeAny_of_tree ?_
  change wpAny _ A.in1 (do checkBuiltinCall "tuple.__new__" ⟨[.type "tuple", .ref r], []⟩; again (.builtin "tuple.__new__" ⟨[.type "tuple", .ref r], []⟩)) _ _ s
  refine wpAny_bind (wpAny_of_eq (F.newCall_tuple_1 _) (wpAny_pure ⟨plainId_quiet F.plain_tuple_new _, codeAny_builtin F.entry_tuple_new ?_⟩)); rw [Around.under_plainId F.plain_tuple_new _]
  have u1 := sub_tuple_self
  have u2 := init_tuple_lookup
  have u3 := madeHere_tuple
  have u4 : s.TypeIs (.ref r) T := src.type _ ok
  have u5 : A.in1.handled = none := hh
  have u6 := src.notTuple
  wp_walk using wpAny_typeOf u4, collected (A := A.in1) src u5 ok small
  intro g tk acc kp ac
  change wpAny _ _ (Builtin.Tuple.tupleExact acc.toList.toArray >>= fun x => ret x) _ _ _
  unfold Builtin.Tuple.tupleExact
  have ea : acc.toList.toArray = acc := by simp
  rw [ea]
  exact wpAny_bind (wpAny_newObj_type (wpAny_pure (k g tk acc kp ac)) (by change acc.size ≤ sizeLine; rw [ac.1]; exact small))
theorem told {Q : Value → Shared → Prop} (src : PySem.W.KdlSrc prog w T r d n P OK) (hh : A.handled = none) (ok : OK s.heap) (small : n ≤ sizeLine)
    (k : ∀ (g : Heap) (tk : Nat) (acc : Array Value), (∀ b o, s.heap.get? b = some o → g.get? b = some o) → ItemsOf P acc n → Q (.ref g.objs.size) { s with heap := g.push { cls := .type "tuple", data := .seq acc }, toks := tk }) :
    wpAny (model prog w) A (call (.type "tuple") [.ref r]) Q E s :=
  callType_codes (Q₁ := fun x s1 => s1.TypeIs x "tuple" ∧ Q x s1) F.called_tuple (F.typeCall_tuple_1 _) F.entry_object_init (newed (A := A.in1) src hh ok small fun g tk acc kp ac => ⟨⟨_, Heap.get?_push_size _ rfl, rfl⟩, k g tk acc kp ac⟩)
    fun x s1 y => ⟨y.1, F.args_object_init_2 x _, object_init_meets F.called_tuple.init.lookup F.called_tuple.made (by decide) prog w A.in1 _ s1 ⟨y.1, rfl, y.2⟩⟩
end
section
variable {X : Cx}
def rTupD : List V → Hp → VK → Prop := fun xs H Q => ∃ a kvs, xs = [.ref a] ∧ H a = some (.dK kvs) ∧ ∀ b, H b = none → Q (.ref b) (L2.upd H b (.tup (kvs.map fun z => kV z.1)))
theorem call_tuple_dict (hc : X.calm = true) : CallR X (.type "tuple") rTupD := by
  intro pins s σ H xs us Q I r hyp
  obtain ⟨a, kvs, e, hk, q⟩ := hyp
  subst e
  obtain ⟨u, eu, rx⟩ := vals1 r
  subst eu
  obtain rfl : u = Value.ref a := rx
  obtain ⟨small, lo, vs, rk, hd⟩ := (show ObjOk X.prog X.w H s.heap a (.dK kvs) from I.hok a _ hk)
  obtain ⟨ep, hat⟩ := hd.dictAt
  have ln : kvs.length = vs.length := Paired.length rk
  refine told (PySem.W.kdl_dict (knd := mixKind X.prog X.w) (kvs := vs) (ep := ep) lo) (I.ok.hd hc) hat (by rw [← ln]; exact small) fun g tk acc kp ac => ?_
  have I1 : Inv X pins σ H { s with heap := g, toks := tk } := I.kept kp
  refine ⟨.ref g.objs.size, L2.upd H g.objs.size (.tup (kvs.map fun z => kV z.1)), I1.laid (t' := tk) (fun b o q => Heap.get?_push_of_some _ q) (Nat.le_refl _) (show ObjOk X.prog X.w _ _ _ (.tup (kvs.map fun z => kV z.1)) from ⟨?_, acc.toList, ?_, ?_⟩), rfl, q _ (I1.hok.fresh (Nat.le_refl _))⟩
  · rw [List.length_map]
    exact small
  · have el : acc.toList.length = acc.size := by simp
    refine vals_of_at (by rw [List.length_map, el, ac.1, ln]) fun j x v h1 h2 => ?_
    obtain ⟨k, y, hky, hi⟩ := ac.2 j v (by rw [← Array.getElem?_toList]; exact h2)
    have e1 : (kvs.map fun z => kV z.1)[j]? = some (kV k) := by
      have := congrArg (fun l => (l[j]?).map kV) (KV.keys rk)
      simpa [List.getElem?_map, Option.map_map, Function.comp_def, hky] using this
    rw [e1] at h1
    cases h1
    exact keyIs_rel hi
  · rw [Array.toArray_toList]
    exact IsTup.new _ _
end
/-! a, .., *c = a tuple -/
theorem walk_from {prog : Program} {w : World} {A : Around} (hh : A.handled = none) (I ax : Addr) (hne : ax ≠ I) (items : Array Value) (k : Nat) (hk : k ≤ items.size) :
    Walks prog w A I [I, ax] [I] (items.size - k) (fun i v => items[k + i]? = some v) (fun i h => h.IsTupleIter I ax (k + i) ∧ h.IsTuple ax items) :=
  let W := Walks.tuple (prog := prog) (w := w) hh I ax hne items
  ⟨W.sub, fun i => W.frame (k + i), fun i s Q E hi st hQ => W.item (k + i) s Q E (by omega) st hQ,
    fun s Q E st hQ => W.done s Q E (by rw [show k + (items.size - k) = items.size by omega] at st; exact st) hQ, fun i => W.self (k + i)⟩
section
variable {prog : Program} {w : World} {A : Around} {E : Value → Shared → Prop} {s : Shared}
theorem items_star {t : Addr} {items : Array Value} {k : Nat} {Q : List Value → Shared → Prop} (hh : A.handled = none) (ht : IsTup s.heap t items) (hk : k ≤ items.size) (hz : items.size ≤ sizeLine)
    (hQ : ∀ (h' : Heap) (tk : Nat), (∀ b o, s.heap.get? b = some o → h'.get? b = some o) →
      Q (items.toList.take k ++ [.ref h'.objs.size]) { s with heap := h'.push { cls := .type "list", data := .seq (items.toList.drop k).toArray }, toks := tk }) :
    wpAny (model prog w) A (unpackItems (.ref t) (k + 1) (some k)) Q E s := by
  have hlt : t ≠ s.heap.objs.size := Nat.ne_of_lt ht.lt
  unfold unpackItems
  refine wpAny_bind ?_
  unfold notIterableAtAll
  refine wpAny_bind (wpAny_specialOf ht.typeIs slot_tuple_iter.lookup (wpAny_pure ?_))
  simp only [Bool.false_eq_true, if_false]
  refine wpAny_bind (wpAny_holding (iter_tuple ht ?_))
  refine wpAny_bind (wpAny_holding (draw_tuple hlt k 0 _ _ ⟨_, Heap.get?_push_size _ rfl, rfl, rfl⟩ (ht.push _) (by omega) fun g hit hs => ?_))
  rw [List.drop_zero, if_neg (by simp; omega)]
  have ht1 : IsTup g t items := (ht.push _).extBut hs.extBut hlt
  have l1 : s.heap.objs.size < g.objs.size := by obtain ⟨o, e, _⟩ := hit; exact Heap.lt_size e
  have l2 : t < g.objs.size := ht1.lt
  have hit1 : g.IsTupleIter s.heap.objs.size t (k + 0) := by rw [Nat.add_zero]; rw [Nat.zero_add] at hit; exact hit
  refine wpAny_bind (wpAny_holding (wpAny_collect_iter (T := "tuple_iterator") (.inr (.inr (.inr rfl))) (walk_from (A := A.in1) hh s.heap.objs.size t hlt items k hk).toS
    (fun _ _ st => let ⟨o, ho, hc, _⟩ := st.1; ⟨o, ho, hc⟩) ⟨hit1, ht1⟩ (fun b hb => ?_) (by simp) (fun s' acc hm ha => ?_) (by omega)))
  · simp only [List.mem_cons, List.not_mem_nil, or_false] at hb
    rcases hb with rfl | rfl
    · exact l1
    · exact l2
  · have ea : acc.toList = items.toList.drop k := by
      refine List.ext_getElem? fun j => ?_
      rw [List.getElem?_drop]
      by_cases hj : j < acc.size
      · have := ha.2 j acc[j] (by simp [hj])
        rw [Array.getElem?_toList, Array.getElem?_toList, this]
        simp [hj]
      · have h1 := ha.1
        rw [List.getElem?_eq_none (by simp; omega), List.getElem?_eq_none (by simp; omega)]
    rw [ea]
    have e0 : k + 1 - 1 - k = 0 := by omega
    simp only [e0, Nat.not_lt_zero, if_false, Nat.sub_zero]
    rw [List.take_of_length_le (Nat.le_refl _), List.drop_of_length_le (Nat.le_refl _)]
    refine wpAny_bind (wpAny_newObj_type (wpAny_pure ?_) (by change (items.toList.drop k).toArray.size ≤ sizeLine; simp; omega))
    obtain ⟨g1, gg, dd, tt, oo⟩ := s'
    obtain ⟨m1, m2, m3, m4, m5⟩ := hm
    simp only at m1 m2 m3 m4 m5 ⊢
    subst m2 m3 m4
    rw [List.append_nil]
    exact hQ g1 tt fun b o e => m1 b o (by simp; exact Nat.ne_of_lt (Heap.lt_size e)) (hs.extBut b o (Nat.ne_of_lt (Heap.lt_size e)) (Heap.get?_push_of_some _ e))
end
section
variable {X : Cx} {pos : Pos}
/-- (a, .., *c) = a tuple, k plain targets ahead of the last -/
def gStar (K : PySem.W.Frag) (k : Nat) (t : TGs) : TG := fun v σ H Q => ∃ a xs, v = .ref a ∧ SqT K H a xs ∧ k ≤ xs.length ∧ ∀ p, H p = none → t (xs.take k ++ [.ref p]) σ (L2.upd H p (.lst (xs.drop k))) Q
theorem pgs_star {e : Expr} {p : Pos} {t : TG} (h1 : PG X e t) (hs : (assignEach [.Starred e p] X.env).map (·.2) = [assign e X.env] := by rfl) : PGs X [.Starred e p] (gCons t gNil) := by
  refine ⟨fun pins s σ H vs us Q I r h => ?_⟩
  obtain ⟨v, vr, e1, h⟩ := h
  subst e1
  cases r with
  | cons r rr =>
    rw [hs]
    refine assignInOrder_cons (L2.thn (h1.run pins s σ H _ _ _ I r h) fun _ s1 y => ?_)
    obtain ⟨σ1, H1, I1, n1, q1⟩ := y
    subst n1
    cases rr
    exact assignInOrder_nil ⟨σ1, H1, I1, q1⟩
theorem pg_star {es : List Expr} {j k : Nat} {t : TGs} (hc : X.calm = true) (h : PGs X es t)
    (hn : (assignEach es X.env).length = k + 1 := by rfl) (hst : (assignEach es X.env).findIdx? (·.1) = some k := by rfl) : PG X (.Tuple es j pos) (gStar X.K k t) := by
  refine ⟨fun pins s σ H v u Q I r hw => ?_⟩
  obtain ⟨a, xs, e1, hq, hl, hw⟩ := hw
  subst e1
  cases r
  obtain ⟨its, rv, ht, hz⟩ := I.tuple hq
  rw [assign_Tuple]
  refine wpAny_bind (wpAny_standAt ?_)
  unfold unpack
  rw [hn, hst]
  refine wpAny_bind (wpAny_holding (items_star (I.ok.hd hc) ht (by have := rv.length; simp at *; omega) (by have := rv.length; simp at *; omega) fun h' tk kp => ?_))
  have I1 : Inv X pins σ H { s with heap := h', toks := tk } := I.kept kp
  have I2 := I1.laid (t' := tk) (h' := h'.push { cls := .type "list", data := .seq (its.drop k).toArray }) (fun b o q => Heap.get?_push_of_some _ q) (Nat.le_refl _) (show ObjOk X.prog X.w (L2.upd H h'.objs.size (.lst (xs.drop k))) _ h'.objs.size (.lst (xs.drop k)) from ⟨by rw [List.length_drop]; have := rv.length; simp at *; omega, its.drop k, _, rv.drop k, Heap.get?_push_size _ rfl⟩)
  refine h.run pins _ σ _ _ _ Q I2 ?_ (hw _ (I1.hok.fresh (Nat.le_refl _)))
  exact (rv.take k).append (.cons rfl .nil)
end
end R22

/-! ### cut, joined, repeated tuples -/
/-! what a cut, a joined, a repeated tuple tells, new or not -/
section
variable {K : PySem.W.Frag} {H : Hp}
theorem catQ {a b : Addr} {xs ys : List V} {Q : V → Hp → Prop} (ha : SqT K H a xs) (hb : SqT K H b ys) (q : ∀ c H', Same H H' → SqT K H' c (xs ++ ys) → Q (.ref c) H') :
    (xs = [] → Q (.ref b) H) ∧ (xs ≠ [] → ys = [] → Q (.ref a) H) ∧ (xs ≠ [] → ys ≠ [] → ∀ p, H p = none → Q (.ref p) (L2.upd H p (.tup (xs ++ ys)))) :=
  ⟨fun e => q b H (Same.refl _) (by rw [e]; exact hb), fun _ e => q a H (Same.refl _) (by rw [e, List.append_nil]; exact ha), fun _ _ p hp => q p _ (same_upd hp) (SqT.of upd_same)⟩
theorem slQ {a : Addr} {xs : List V} {lo hi : Option Int} {Q : V → Hp → Prop} (ha : SqT K H a xs) (q : ∀ c H', Same H H' → SqT K H' c (cutV xs lo hi) → Q (.ref c) H') :
    (HT.sIx xs.length 0 lo = 0 ∧ HT.sIx xs.length xs.length hi = xs.length → Q (.ref a) H) ∧ (¬ (HT.sIx xs.length 0 lo = 0 ∧ HT.sIx xs.length xs.length hi = xs.length) → ∀ p, H p = none → Q (.ref p) (L2.upd H p (.tup (cutV xs lo hi)))) :=
  ⟨fun e => q a H (Same.refl _) (by unfold cutV; rw [e.1, e.2, Nat.sub_zero, List.drop_zero, List.take_of_length_le (Nat.le_refl _)]; exact ha), fun _ p hp => q p _ (same_upd hp) (SqT.of upd_same)⟩
theorem repQ {a : Addr} {k : Int} {xs : List V} {Q : V → Hp → Prop} (ha : SqT K H a xs) (h1 : 1 ≤ k) (q : ∀ c H', Same H H' → SqT K H' c (List.replicate k.toNat xs).flatten → Q (.ref c) H') :
    (k = 1 ∧ Q (.ref a) H) ∨ (1 < k ∧ ∀ p, H p = none → Q (.ref p) (L2.upd H p (.tup (List.replicate k.toNat xs).flatten))) := by
  by_cases e : k = 1
  · subst e
    exact .inl ⟨rfl, q a H (Same.refl _) (by simpa using ha)⟩
  · exact .inr ⟨by omega, fun p hp => q p _ (same_upd hp) (SqT.of upd_same)⟩
variable {X : Cx}
def rCatQ (K : PySem.W.Frag) : R2 := fun x y H Q => ∃ a b xs ys, x = .ref a ∧ y = .ref b ∧ SqT K H a xs ∧ SqT K H b ys ∧ xs.length + ys.length ≤ sizeLine ∧ ∀ c H', Same H H' → SqT K H' c (xs ++ ys) → Q (.ref c) H'
theorem op_catQ : OpR X (binaryOp .Add) (rCatQ X.K) := fun pins s σ H x y v u Q I rx ry ⟨a, b, xs, ys, h1, h2, h3, h4, h5, q⟩ => op_catA pins s σ H x y v u Q I rx ry ⟨a, b, xs, ys, h1, h2, h3, h4, h5, catQ h3 h4 q⟩
def rSlQ (K : PySem.W.Frag) : V → Option Int → Option Int → Hp → VK → Prop := fun x lo hi H Q => ∃ a xs, x = .ref a ∧ SqT K H a xs ∧ ∀ c H', Same H H' → SqT K H' c (cutV xs lo hi) → Q (.ref c) H'
theorem slTQ (K : PySem.W.Frag) (h : X.K = K := by rfl) : SlR X (rSlQ K) := by
  subst h
  exact fun pins s σ H x v vl vu lo hi sl Q I rx hs pl pu ⟨a, xs, h1, h2, q⟩ => sl_tupA pins s σ H x v vl vu lo hi sl Q I rx hs pl pu ⟨a, xs, h1, h2, slQ h2 q⟩
theorem sl_tupQ : SlR X (rSlQ X.K) := fun pins s σ H x v vl vu lo hi sl Q I rx hs pl pu ⟨a, xs, h1, h2, q⟩ => sl_tupA pins s σ H x v vl vu lo hi sl Q I rx hs pl pu ⟨a, xs, h1, h2, slQ h2 q⟩
def rRepQ (K : PySem.W.Frag) : R2 := fun x y H Q => ∃ l k xs, x = .ref l ∧ y = .int k ∧ SqT K H l xs ∧ xs ≠ [] ∧ 1 ≤ k ∧ k ≤ 1000 ∧ xs.length ≤ 1000 ∧ ∀ c H', Same H H' → SqT K H' c (List.replicate k.toNat xs).flatten → Q (.ref c) H'
theorem op_repQ : OpR X (binaryOp .Mult) (rRepQ X.K) := fun pins s σ H x y v u Q I rx ry ⟨a, k, xs, h1, h2, h3, h4, h5, h6, h7, q⟩ => R22.op_repA pins s σ H x y v u Q I rx ry ⟨a, k, xs, h1, h2, h3, h4, h5, h6, h7, repQ h3 h5 q⟩
end

/-! ### the words of a saying's rows -/
def Row.words : Row → List Str
  | .mark z => [z]
  | .word x _ => [x]
  | .run x f _ => [x, f]
def wAt (acc : List (List Str)) (r : Row) : List Str := r.words ++ (r.nums.map fun n => acc.getD n.toNat []).flatten
def wAll (rows : List Row) : List (List Str) := rows.foldl (fun acc r => acc ++ [wAt acc r]) []
theorem wAll_snoc (rows : List Row) (r : Row) : wAll (rows ++ [r]) = wAll rows ++ [wAt (wAll rows) r] := by
  unfold wAll
  rw [List.foldl_append]
  rfl
theorem snocInd {α : Type} {P : List α → Prop} (h0 : P []) (h1 : ∀ l a, P l → P (l ++ [a])) : ∀ l, P l := by
  have h : ∀ l, P (List.reverse l) := by
    intro l
    induction l with
    | nil => exact h0
    | cons a l ih =>
      rw [List.reverse_cons]
      exact h1 _ _ ih
  intro l
  rw [← List.reverse_reverse l]
  exact h _
theorem wAll_len : ∀ rows : List Row, (wAll rows).length = rows.length := by
  refine snocInd rfl fun rows r ih => ?_
  rw [wAll_snoc, List.length_append, List.length_append, ih]
  rfl
theorem wAll_take (rows : List Row) : ∀ k, wAll (rows.take k) = (wAll rows).take k := by
  refine snocInd (P := fun rows => ∀ k, wAll (rows.take k) = (wAll rows).take k) ?_ ?_ rows
  · intro k; simp [wAll]
  · intro rows r ih
    intro k
    by_cases h : k ≤ rows.length
    · rw [List.take_append_of_le_length h, wAll_snoc, List.take_append_of_le_length (by rw [wAll_len]; exact h), ih]
    · rw [List.take_of_length_le (by rw [List.length_append]; show _ + 1 ≤ k; omega), List.take_of_length_le (by rw [wAll_len, List.length_append]; show _ + 1 ≤ k; omega)]
def w (rows : List Row) (i : Nat) : List Str := (wAll rows).getD i []
theorem getD_take {α : Type} {l : List α} {k i : Nat} {d : α} (h : i < k) : (l.take k).getD i d = l.getD i d := by
  rw [List.getD_eq_getElem?_getD, List.getD_eq_getElem?_getD, List.getElem?_take_of_lt h]
theorem w_take {rows : List Row} {k i : Nat} (h : i < k) : w (rows.take k) i = w rows i := by
  unfold w
  rw [wAll_take, getD_take h]
theorem w_at {rows : List Row} {i : Nat} {r : Row} (h : rows[i]? = some r) : w rows i = wAt (wAll (rows.take i)) r := by
  have hi : i < rows.length := (List.getElem?_eq_some_iff.mp h).1
  have e : rows.take (i + 1) = rows.take i ++ [r] := by
    rw [List.take_add_one, h]
    rfl
  rw [← w_take (Nat.lt_succ_self i), show (i + 1) = i.succ from rfl] at *
  unfold w
  rw [e, wAll_snoc, List.getD_eq_getElem?_getD, List.getElem?_append_right (by rw [wAll_len, List.length_take]; omega), wAll_len, List.length_take, Nat.min_eq_left (by omega), Nat.sub_self]
  rfl
theorem w_eq {rows : List Row} {i : Nat} {r : Row} (h : rows[i]? = some r) (g : GoodRow i r) : w rows i = r.words ++ (r.nums.map fun n => w rows n.toNat).flatten := by
  rw [w_at h]
  unfold wAt
  congr 2
  refine List.map_congr_left fun n hn => ?_
  have b : 0 ≤ n ∧ n < (i : Int) := by
    cases r with
    | mark z => cases hn
    | word x ns => exact g.2 n hn
    | run x f ns => exact g.2.2 n hn
  rw [wAll_take, getD_take (by omega)]
  rfl
theorem words_ne {r : Row} : 1 ≤ r.words.length := by cases r <;> simp [Row.words]
theorem w_ne {rows : List Row} {i : Nat} {r : Row} (h : rows[i]? = some r) : 1 ≤ (w rows i).length := by
  rw [w_at h]
  unfold wAt
  rw [List.length_append]
  have := words_ne (r := r)
  omega
/-! joined -/
def sp1 : Str := Str.ofString " "
def jn (l : List Str) : Str := Str.join sp1 l
theorem join_txt (l : List Str) : Txt.join sp1 l = jn l := StrLaws.glued_eq_join sp1 l
theorem jn_one (x : Str) : jn [x] = x := rfl
theorem jn_cons (x : Str) {l : List Str} (h : l ≠ []) : jn (x :: l) = x ++ sp1 ++ jn l := by
  cases l with
  | nil => exact absurd rfl h
  | cons y r => rfl
theorem jn_app : ∀ {a b : List Str}, a ≠ [] → b ≠ [] → jn (a ++ b) = jn a ++ sp1 ++ jn b
  | [], _, h, _ => absurd rfl h
  | [x], b, _, hb => by
    rw [List.singleton_append, jn_cons x hb, jn_one]
  | x :: y :: r, b, _, hb => by
    rw [List.cons_append, jn_cons x (by simp), jn_cons x (by simp), jn_app (by simp) hb]
    simp only [Str.append_assoc]
theorem jn_congr {a b c : List Str} (ha : a ≠ []) (hb : b ≠ []) (h : jn a = jn b) : jn (a ++ c) = jn (b ++ c) := by
  cases c with
  | nil => rw [List.append_nil, List.append_nil, h]
  | cons x r => rw [jn_app ha (by simp), jn_app hb (by simp), h]
theorem jn_flat : ∀ {Ls : List (List Str)} {a : List Str}, a ≠ [] → (∀ L ∈ Ls, L ≠ []) → jn (a ++ Ls.flatten) = jn (a ++ Ls.map jn)
  | [], _, _, _ => rfl
  | L :: Ls, a, ha, h => by
    have hL := h L List.mem_cons_self
    rw [List.flatten_cons, ← List.append_assoc, jn_flat (by simp [ha]) fun M hM => h M (List.mem_cons_of_mem _ hM), List.map_cons, show a ++ jn L :: Ls.map jn = (a ++ [jn L]) ++ Ls.map jn by simp]
    refine jn_congr (by simp [ha]) (by simp) ?_
    rw [jn_app ha hL, jn_app ha (by simp), jn_one]
theorem jn_len : ∀ l : List Str, (∀ x ∈ l, x.length ≤ 8) → (jn l).length ≤ 9 * l.length
  | [], _ => by decide
  | [x], h => by
    rw [jn_one]
    have := h x List.mem_cons_self
    show x.length ≤ 9
    omega
  | x :: y :: r, h => by
    rw [jn_cons x (by simp), app_len, app_len]
    have h1 := h x List.mem_cons_self
    have h2 := jn_len (y :: r) fun z hz => h z (List.mem_cons_of_mem _ hz)
    have h3 : sp1.length = 1 := by decide
    rw [List.length_cons]
    omega
def Short (l : List Str) : Prop := ∀ x ∈ l, x.length ≤ 8
theorem words_short {r : Row} {k : Nat} (g : GoodRow k r) : Short r.words := by
  have p : ∀ p ∈ partsL, p.1.length ≤ 8 := by decide +kernel
  have q : ∀ p ∈ formsL, p.1.length ≤ 8 := by decide +kernel
  have s : ∀ p ∈ whoseL, p.length ≤ 8 := by decide +kernel
  intro x hx
  cases r with
  | mark z =>
    rw [List.mem_singleton.mp hx]
    exact (show GoodName z from g).hi
  | word y ns =>
    rw [List.mem_singleton.mp hx]
    exact p _ g.1
  | run y f ns =>
    rcases List.mem_cons.mp hx with rfl | hx
    · exact s _ g.1
    · rw [List.mem_singleton.mp hx]
      exact q _ g.2.1
theorem w_short {rows : List Row} (G : ∀ i r, rows[i]? = some r → GoodRow i r) : ∀ n i : Nat, i < n → Short (w rows i) := by
  intro n
  induction n with
  | zero => intro i h; omega
  | succ n ih =>
    intro i hi
    cases e : rows[i]? with
    | none =>
      intro x hx
      unfold w at hx
      rw [List.getD_eq_getElem?_getD, List.getElem?_eq_none (by rw [wAll_len]; exact List.getElem?_eq_none_iff.mp e)] at hx
      cases hx
    | some r =>
      rw [w_eq e (G i r e)]
      intro x hx
      rcases List.mem_append.mp hx with hx | hx
      · exact words_short (G i r e) x hx
      · obtain ⟨L, hL, hx⟩ := List.mem_flatten.mp hx
        obtain ⟨m, hm, rfl⟩ := List.mem_map.mp hL
        have b : 0 ≤ m ∧ m < (i : Int) := by
          have g := G i r e
          cases r with
          | mark z => cases hm
          | word x ns => exact g.2 m hm
          | run x f ns => exact g.2.2 m hm
        exact ih m.toNat (by omega) x hx

/-! ### words and counts -/
section
variable {P : Program} {w : World} {K : PySem.W.Frag} {mg : Str → Option Value} {base : Heap}
theorem parts_no {x : Str} {n : Nat} (h : (x, n) ∈ partsL) : x ≠ Str.ofString "mark" ∧ x ∉ whoseL := by
  have : ∀ p ∈ partsL, p.1 ≠ Str.ofString "mark" ∧ p.1 ∉ whoseL := by decide +kernel
  exact this _ h
theorem whose_no {x : Str} (h : x ∈ whoseL) : x ≠ Str.ofString "mark" := by
  have : ∀ p ∈ whoseL, p ≠ Str.ofString "mark" := by decide +kernel
  exact this _ h
theorem parts_le {x : Str} {n : Nat} (h : (x, n) ∈ partsL) : n ≤ 2 := by
  have : ∀ p ∈ partsL, p.2 ≤ 2 := by decide +kernel
  exact this _ h
theorem forms_le {x : Str} {n : Nat} (h : (x, n) ∈ formsL) : n ≤ 2 := by
  have : ∀ p ∈ formsL, p.2 ≤ 2 := by decide +kernel
  exact this _ h
theorem nums_le {r : Row} {k : Nat} (g : GoodRow k r) : r.nums.length ≤ 2 := by
  cases r with
  | mark z => exact Nat.zero_le _
  | word x ns => exact parts_le g.1
  | run x f ns => exact forms_le g.2.1
theorem nums_in {r : Row} {k : Nat} (g : GoodRow k r) : ∀ n ∈ r.nums, 0 ≤ n ∧ n < (k : Int) := by
  cases r with
  | mark z => exact fun _ h => absurd h List.not_mem_nil
  | word x ns => exact g.2
  | run x f ns => exact g.2.2
/-! counts -/
def lenV (l : List Str) : V := .int l.length
theorem len_wAt (acc : List (List Str)) (r : Row) : ((wAt acc r).length : Int) = (r.words.length : Int) + (r.nums.map fun n => ((acc.getD n.toNat []).length : Int)).sum := by
  unfold wAt
  rw [List.length_append, List.length_flatten, List.map_map]
  have : ∀ ns : List Int, ((ns.map (List.length ∘ fun n => acc.getD n.toNat [])).sum : Int) = (ns.map fun n => ((acc.getD n.toNat []).length : Int)).sum := by
    intro ns
    induction ns with
    | nil => rfl
    | cons n ns ih =>
      rw [List.map_cons, List.map_cons, List.sum_cons, List.sum_cons, ← ih]
      rfl
  rw [← this r.nums]
  exact Int.natCast_add _ _
theorem take_step {rows : List Row} {i : Nat} {r : Row} (h : rows[i]? = some r) : wAll (rows.take (i + 1)) = wAll (rows.take i) ++ [wAt (wAll (rows.take i)) r] := by
  rw [List.take_add_one, h]
  exact wAll_snoc _ _
theorem wtake_len {rows : List Row} {i : Nat} (h : i ≤ rows.length) : (wAll (rows.take i)).length = i := by rw [wAll_len, List.length_take, Nat.min_eq_left h]
theorem lens_at {acc : List (List Str)} {n : Int} (h0 : 0 ≤ n) (h1 : n.toNat < acc.length) : atI (acc.map lenV) n = some (.int (acc.getD n.toNat []).length) := by
  obtain ⟨j, rfl⟩ : ∃ j : Nat, n = (j : Int) := ⟨n.toNat, by omega⟩
  have h1 : j < acc.length := h1
  refine atI_nat (get_map (f := lenV) (x := acc.getD (j : Int).toNat []) ?_)
  show acc[j]? = some (acc.getD j [])
  rw [List.getD_eq_getElem?_getD, List.getElem?_eq_getElem h1]
  rfl
def spWin (K : PySem.W.Frag) : Sp := fun vs H Q _ => ∃ (t : Addr) (rows : List Row), vs = [.ref t] ∧ SayAt K H t rows ∧ GoodSay rows ∧ ∀ H' p, Same H H' → SqL K H' p ((wAll rows).map lenV) → Q (.ref p) H'
end
theorem nil_or_snoc {α : Type} (l : List α) : l = [] ∨ ∃ l' x, l = l' ++ [x] := snocInd (P := fun l => l = [] ∨ ∃ l' x, l = l' ++ [x]) (.inl rfl) (fun l a _ => .inr ⟨l, a, rfl⟩) l
theorem w_of {rows : List Row} (G : GoodSay rows) {i : Nat} {r : Row} (h : rows[i]? = some r) : w rows i = r.words ++ ((r.nums.map Int.toNat).map (w rows)).flatten := by
  rw [w_eq h (G.gr i r h), List.map_map]
  rfl
theorem atI_lastD {l : List (List Str)} (h : 1 ≤ l.length) : atI (l.map lenV) (-1) = some (.int (l.getD (l.length - 1) []).length) := by
  rcases nil_or_snoc l with rfl | ⟨l', x, rfl⟩
  · simp at h
  · rw [List.map_append, List.map_singleton, atI_last, List.length_append, List.length_singleton, Nat.add_sub_cancel, List.getD_eq_getElem?_getD, List.getElem?_append_right (Nat.le_refl _), Nat.sub_self]
    rfl
theorem last_at {α : Type} {l : List α} {x : α} : (l ++ [x])[(l ++ [x]).length - 1]? = some x := by
  rw [List.length_append, List.length_singleton, Nat.add_sub_cancel, List.getElem?_append_right (Nat.le_refl _), Nat.sub_self]
  rfl

/-! ### the law's own text -/
abbrev s_law_row_words : Stmt := topS 35
theorem sc_law_row_words : FnScope ["_law_row_here", "_law_word"] ["_law_row_here"] (defScope s_law_row_words) := ⟨rfl, rfl, rfl, by decide +kernel, rfl, by decide +kernel, by decide +kernel⟩
abbrev s_law_row_numbers : Stmt := topS 36
theorem sc_law_row_numbers : FnScope ["_law_row_here", "_law_k"] ["_law_row_here"] (defScope s_law_row_numbers) := ⟨rfl, rfl, rfl, by decide +kernel, rfl, by decide +kernel, by decide +kernel⟩
abbrev s_law_counts : Stmt := topS 37
theorem sc_law_counts : FnScope ["_law_saying_here", "_law_counts_here", "_law_row_here", "_law_k"] ["_law_saying_here"] (defScope s_law_counts) := ⟨rfl, rfl, rfl, by decide +kernel, rfl, by decide +kernel, by decide +kernel⟩
abbrev s_law_text : Stmt := topS 38
theorem sc_law_text : FnScope ["_law_saying_here", "_law_counts_here", "_law_texts", "_law_k", "_law_words", "_law_j"] ["_law_saying_here"] (defScope s_law_text) := ⟨rfl, rfl, rfl, by decide +kernel, rfl, by decide +kernel, by decide +kernel⟩
section
variable {P : Program} {w : World} {K : PySem.W.Frag} {mg : Str → Option Value} {base : Heap}
def isStrV : V → Bool
  | .str _ => true
  | _ => false
def isIntV : V → Bool
  | .int _ => true
  | _ => false
theorem filt_si (ns : List Int) : (ns.map V.int).filter isStrV = [] ∧ (ns.map V.int).filter isIntV = ns.map V.int := by
  induction ns with
  | nil => exact ⟨rfl, rfl⟩
  | cons n ns ih => exact ⟨ih.1, by rw [List.map_cons, List.filter_cons_of_pos rfl, ih.2]⟩
theorem enc_si {r : Row} {v : V} (h : v ∈ r.enc) : (∃ z, v = .str z) ∨ ∃ n, v = .int n := by
  have hn : ∀ {ns : List Int}, v ∈ ns.map V.int → ∃ n, v = .int n := fun h => by
    obtain ⟨n, _, rfl⟩ := List.mem_map.mp h
    exact ⟨n, rfl⟩
  cases r with
  | mark z =>
    rcases List.mem_cons.mp h with rfl | h
    · exact .inl ⟨_, rfl⟩
    · exact .inl ⟨_, List.mem_singleton.mp h⟩
  | word x ns =>
    rcases List.mem_cons.mp h with rfl | h
    · exact .inl ⟨_, rfl⟩
    · exact .inr (hn h)
  | run x f ns =>
    rcases List.mem_cons.mp h with rfl | h
    · exact .inl ⟨_, rfl⟩
    · rcases List.mem_cons.mp h with rfl | h
      · exact .inl ⟨_, rfl⟩
      · exact .inr (hn h)
theorem enc_int (r : Row) : r.enc.filter isIntV = r.nums.map V.int := by
  cases r with
  | mark z => rfl
  | word x ns => exact (filt_si ns).2
  | run x f ns => exact (filt_si ns).2
theorem enc_str {r : Row} (h : ∀ z, r ≠ .mark z) : r.enc.filter isStrV = r.words.map V.str := by
  cases r with
  | mark z => exact absurd rfl (h z)
  | word x ns =>
    show V.str x :: (ns.map V.int).filter isStrV = _
    rw [(filt_si ns).1]
    rfl
  | run x f ns =>
    show V.str x :: V.str f :: (ns.map V.int).filter isStrV = _
    rw [(filt_si ns).1]
    rfl
theorem enc_le {r : Row} {k : Nat} (g : GoodRow k r) : r.enc.length ≤ 4 := by
  cases r with
  | mark z => show 2 ≤ 4; decide
  | word x ns =>
    have := parts_le g.1
    show (ns.map V.int).length + 1 ≤ 4
    rw [List.length_map]
    omega
  | run x f ns =>
    have := forms_le g.2.1
    show (ns.map V.int).length + 1 + 1 ≤ 4
    rw [List.length_map]
    omega
theorem words_le (r : Row) : r.words.length ≤ 2 := by cases r <;> simp [Row.words]
def spRWords (K : PySem.W.Frag) : Sp := fun vs H Q _ => ∃ (t : Addr) (r : Row) (k : Nat), vs = [.ref t] ∧ SqT K H t r.enc ∧ GoodRow k r ∧ ∀ H' p, Same H H' → H' p = some (.lst (r.words.map V.str)) → Q (.ref p) H'
theorem ok_rwords {f : Addr} {fd : FuncData} (F : Fun K "_law_row_words" "_law_row_words" s_law_row_words f fd) (T : Bi mg) : FnOk P w K mg base CX0 1 f fd ["_law_row_here"] (spRWords K) := by
  refine F.ok sc_law_row_words (fun vs H Q E h => ?_) (fun cdv A outer s H vs Q E hr h => ?_)
  · obtain ⟨t, r, k, rfl, _⟩ := h
    rfl
  · obtain ⟨t, r, k, rfl, ht, g, q⟩ := h
    refine ⟨_, (pss_cons (ps_if (pt_cmpR op_eq (pe_ix ix_tup (pv 0) pe_int (fun _ _ => rfl)) pe_str (nomark _))
        (pss_one (ps_ret (pe_lst (pa_cons (pe_ix ix_tup (pv 0) pe_int (fun _ _ => rfl)) pa_nil))))
        pss_nil)
      (pss_one (ps_ret (pe_lc (own := [("_law_word", 1)]) (g := gName 1) rfl sc_law_row_words.nd (pi_tup (pv 0)) (blkOk_by (own := [("_law_word", 1)]) (N := ["_law_row_here", "_law_word"]) (sc := defScope s_law_row_words) (by decide +kernel)) (fun _ _ _ _ _ => (pg_name (i := 1) sc_law_row_words.nd rfl (.inl rfl))) (fun _ _ _ _ _ => (pts_one (pt_val (pe_callB (isiK K) (by rfl) T.isinstance (by decide +kernel) (pa_cons (pv 1) (pa_cons (pe_bltn (v := .ty "str") (u := .type "str") (by rfl) T.str (by decide +kernel) rfl) pa_nil)))))) (fun _ _ _ _ _ => (pv 1)))))), ?_⟩
    by_cases hm : ∃ z, r = .mark z
    · obtain ⟨z, rfl⟩ := hm
      refine ⟨_, rfl, t, _, 0, .str "mark", rfl, rfl, ht, at_of (j := 0) rfl rfl, rfl, _, rfl, ?_⟩
      rw [dec_str, decide_eq_true rfl]
      refine iteT ⟨_, rfl, t, _, 1, .str z, rfl, rfl, ht, at_of (j := 1) rfl rfl, by show 1 ≤ sizeLine; decide, fun p hp => ?_⟩
      exact q _ p (same_upd hp) upd_same
    · have nm : ∀ z, r ≠ .mark z := fun z e => hm ⟨z, e⟩
      obtain ⟨x, v0, hx⟩ : ∃ x, (∃ l, r.enc = .str x :: l) ∧ x ≠ Str.ofString "mark" := by
        cases r with
        | mark z => exact absurd rfl (nm z)
        | word x ns => exact ⟨x, ⟨_, rfl⟩, (parts_no g.1).1⟩
        | run x f ns => exact ⟨x, ⟨_, rfl⟩, whose_no g.1⟩
      obtain ⟨l0, e0⟩ := v0
      refine ⟨_, rfl, t, _, 0, .str x, rfl, rfl, ht, at_of (j := 0) rfl (by rw [e0]; rfl), rfl, _, rfl, ?_⟩
      rw [dec_str, decide_eq_false hx]
      have le := enc_le g
      refine iteF ⟨_, rfl, t, rfl, ⟨_, ht⟩, fun D hD => ?_⟩
      refine lc_tupS (fun j acc => acc = (r.enc.take j).filter isStrV) ht hD (by omega) rfl (fun _ => rfl) (fun j x H4 acc hj s4 p5 p4 N1 N2 n1 n2 => ?_) (fun H4 acc s4 hD4 hl p5 => ?_)
      · rcases enc_si (List.mem_of_getElem? hj) with ⟨z, rfl⟩ | ⟨n, rfl⟩
        · refine ⟨_, rfl, _, _, _, _, true, rfl, .ty "str", .base (.str _), kit_ty (by decide +kernel), true, rfl, iteT ⟨_, rfl, n1 _ H4 (Same.refl _) ?_⟩⟩
          rw [p5, List.take_add_one, hj, List.filter_append]
          rfl
        · refine ⟨_, rfl, _, _, _, _, false, rfl, .ty "str", .base (.int _), kit_ty (by decide +kernel), false, rfl, iteF (n2 H4 (Same.refl _) ?_)⟩
          rw [p5, List.take_add_one, hj, List.filter_append]
          exact (List.append_nil _).symm
      · rw [List.take_length, enc_str nm] at p5
        subst p5
        exact q _ D s4 hD4
def spRNums (K : PySem.W.Frag) : Sp := fun vs H Q _ => ∃ (t : Addr) (r : Row) (k : Nat), vs = [.ref t] ∧ SqT K H t r.enc ∧ GoodRow k r ∧ ∀ H' p, Same H H' → H' p = some (.lst (r.nums.map V.int)) → Q (.ref p) H'
theorem ok_rnums {f : Addr} {fd : FuncData} (F : Fun K "_law_row_numbers" "_law_row_numbers" s_law_row_numbers f fd) (T : Bi mg) : FnOk P w K mg base CX0 1 f fd ["_law_row_here"] (spRNums K) := by
  refine F.ok sc_law_row_numbers (fun vs H Q E h => ?_) (fun cdv A outer s H vs Q E hr h => ?_)
  · obtain ⟨t, r, k, rfl, _⟩ := h
    rfl
  · obtain ⟨t, r, k, rfl, ht, g, q⟩ := h
    refine ⟨_, (pss_one (ps_ret (pe_lc (own := [("_law_k", 1)]) (g := gName 1) rfl sc_law_row_numbers.nd (pi_tup (pv 0)) (blkOk_by (own := [("_law_k", 1)]) (N := ["_law_row_here", "_law_k"]) (sc := defScope s_law_row_numbers) (by decide +kernel)) (fun _ _ _ _ _ => (pg_name (i := 1) sc_law_row_numbers.nd rfl (.inl rfl))) (fun _ _ _ _ _ => (pts_one (pt_val (pe_callB (isiK K) (by rfl) T.isinstance (by decide +kernel) (pa_cons (pv 1) (pa_cons (pe_bltn (v := .ty "int") (u := .type "int") (by rfl) T.int (by decide +kernel) rfl) pa_nil)))))) (fun _ _ _ _ _ => (pv 1))))), ?_⟩
    have le := enc_le g
    refine ⟨_, rfl, t, rfl, ⟨_, ht⟩, fun D hD => ?_⟩
    refine lc_tupS (fun j acc => acc = (r.enc.take j).filter isIntV) ht hD (by omega) rfl (fun _ => rfl) (fun j x H4 acc hj s4 p5 p4 N1 N2 n1 n2 => ?_) (fun H4 acc s4 hD4 hl p5 => ?_)
    · rcases enc_si (List.mem_of_getElem? hj) with ⟨z, rfl⟩ | ⟨n, rfl⟩
      · refine ⟨_, rfl, _, _, _, _, false, rfl, .ty "int", .base (.str _), kit_ty (by decide +kernel), false, rfl, iteF (n2 H4 (Same.refl _) ?_)⟩
        rw [p5, List.take_add_one, hj, List.filter_append]
        exact (List.append_nil _).symm
      · refine ⟨_, rfl, _, _, _, _, true, rfl, .ty "int", .base (.int _), kit_ty (by decide +kernel), true, rfl, iteT ⟨_, rfl, n1 _ H4 (Same.refl _) ?_⟩⟩
        rw [p5, List.take_add_one, hj, List.filter_append]
        rfl
    · rw [List.take_length, enc_int] at p5
      subst p5
      exact q _ D s4 hD4
theorem ok_lcounts {f : Addr} {fd : FuncData} (F : Fun K "_law_counts" "_law_counts" s_law_counts f fd) (T : Bi mg) (c_law_row_words : Cal P w K mg base 1 "_law_row_words" ["_law_row_here"] (spRWords K)) (c_law_row_numbers : Cal P w K mg base 1 "_law_row_numbers" ["_law_row_here"] (spRNums K)) : FnOk P w K mg base CX0 2 f fd ["_law_saying_here"] (spWin K) := by
  refine F.ok sc_law_counts (fun vs H Q E h => ?_) (fun cdv A outer s H vs Q E hr h => ?_)
  · obtain ⟨t, rows, rfl, _⟩ := h
    rfl
  · obtain ⟨t, rows, rfl, S, g, q⟩ := h
    obtain ⟨ra, hra, hr2⟩ := S.ex
    have hl : ra.length = rows.length := hr2.len
    have hi := g.hi
    refine ⟨_, (pss_cons (ps_set (i := 1) sc_law_counts.nd rfl (.inr rfl) (pe_lst pa_nil))
      (pss_cons (ps_for PassesOwn.never rfl (pi_tup (pv 0)) (pg_name (i := 2) sc_law_counts.nd rfl (.inl rfl))
        (pss_one (ps_expr (pe_bm PySem.F.plainAttrs_list PySem.F.slot_list_append PySem.F.type_list_append mt_append (pv 1) (pa_cons (pe_op op_add (pe_callB call_len_seq (by rfl) T.len PySem.boot_len (pa_cons (pe_call c_law_row_words.G hr (by rfl) c_law_row_words.g c_law_row_words.kp c_law_row_words.b .nil pass0 (pa_cons (pv 2) pa_nil)) pa_nil)) (pe_callB (cr_sum rfl) (by rfl) T.sum (by decide +kernel) (pa_cons (pe_lc (own := [("_law_k", 3)]) (g := gName 3) rfl sc_law_counts.nd (pi_list (pe_call c_law_row_numbers.G hr (by rfl) c_law_row_numbers.g c_law_row_numbers.kp c_law_row_numbers.b .nil pass0 (pa_cons (pv 2) pa_nil))) (blkOk_by (own := [("_law_k", 3)]) (N := ["_law_saying_here", "_law_counts_here", "_law_row_here", "_law_k"]) (sc := defScope s_law_counts) (by decide +kernel)) (fun _ _ _ _ _ => (pg_name (i := 3) sc_law_counts.nd rfl (.inl rfl))) (fun _ _ _ _ _ => pts_nil) (fun _ _ _ _ _ => (pe_ix (ixL K) (pv 1) (pv 3) (fun _ _ => rfl)))) pa_nil))) pa_nil)))))
      (pss_one (ps_ret (pv 1))))), ?_⟩
    refine ⟨Nat.zero_le _, fun fl hfl => ?_⟩
    refine ⟨_, rfl, t, rfl, ⟨_, ssqt (same_upd hfl) hra⟩, for_tup (K := K) (a := t) (xs := ra.map V.ref) (fun i σ H' => ∃ y, σ = [some (.ref t), some (.ref fl), y, none] ∧ Same H H' ∧ H' fl = some (.lst ((wAll (rows.take i)).map lenV))) ⟨none, rfl, same_upd hfl, upd_same⟩ (fun i σ H' _ ⟨_, _, s1, _⟩ => ssqt s1 hra) ?_ ?_⟩
    · rintro i x σ H1 hix ⟨y, rfl, s1, h1⟩
      obtain ⟨a, ha, rfl⟩ := ref_get hix
      obtain ⟨r, hr1, hr3⟩ := hr2.get ha
      have gr := g.gr i r hr1
      have il : i < rows.length := (List.getElem?_eq_some_iff.mp hr1).1
      have wl := wtake_len (rows := rows) (Nat.le_of_lt il)
      have nl := nums_le gr
      refine ⟨_, rfl, .inl ⟨rfl, _, SqL.of h1⟩, _, rfl, a, r, i, rfl, ssqt s1 hr3, gr, fun H2 p s2 hp => ⟨p, _, rfl, .inl (SqL.of hp), ?_⟩⟩
      refine ⟨_, rfl, a, r, i, rfl, ssqt s2 (ssqt s1 hr3), gr, fun H3 p2 s3 hp2 => ⟨p2, rfl, ⟨_, SqL.of hp2⟩, fun D hD => ?_⟩⟩
      have h3 := s3 _ _ (s2 _ _ h1)
      refine lc_listS (fun j acc => acc = ((r.nums.take j).map fun n => V.int ((wAll (rows.take i)).getD n.toNat []).length)) (SqL.of hp2) hD (by rw [List.length_map]; omega) rfl (fun _ => rfl) (fun j x H4 acc hj s4 p5 p4 N1 N2 n1 n2 => ?_) (fun H4 acc s4 hD4 hl p5 => ?_)
      · rw [List.getElem?_map] at hj
        obtain ⟨n, hn1, rfl⟩ := Option.map_eq_some_iff.mp hj
        obtain ⟨b1, b2⟩ := nums_in gr n (List.mem_of_getElem? hn1)
        refine ⟨_, rfl, _, rfl, fl, _, _, _, rfl, rfl, SqL.of (s4 _ _ h3), lens_at b1 (by rw [wl]; omega), ?_⟩
        refine n1 _ H4 (Same.refl _) ?_
        rw [p5, List.take_add_one, hn1, List.map_append]
        rfl
      · subst p5
        rw [List.length_map, List.take_length] at hD4
        refine ⟨D, r.nums.map (fun n => (((wAll (rows.take i)).getD n.toNat []).length : Int)), rfl, SqL.of (by rw [hD4, List.map_map]; rfl), ?_⟩
        refine ⟨_, _, rfl, rfl, ?_⟩
        have h4 := s4 _ _ h3
        refine ⟨fl, _, _, rfl, rfl, h4, szLt (by rw [List.length_map, wl]; omega), ?_⟩
        refine ⟨_, rfl, smut (((s1.trans s2).trans s3).trans s4) hfl, ?_⟩
        rw [upd_same, take_step hr1, List.map_append, List.length_map]
        show some (HO.lst (_ ++ [V.int (_ + _)])) = some (HO.lst (_ ++ [V.int _]))
        rw [len_wAt]
    · rintro σ H1 ⟨y, rfl, s1, h1⟩
      rw [List.length_map, hl, List.take_length] at h1
      exact ⟨_, rfl, q _ fl s1 (SqL.of h1)⟩
/-! the texts -/
def txS (rows : List Row) (k : Nat) : Str := if (Fx.w rows k).length ≤ 400 then jn (Fx.w rows k) else match rows[k]? with
  | some r => jn r.words
  | none => sp1
def textV (rows : List Row) : V := if (Fx.w rows (rows.length - 1)).length ≤ 400 then .str (jn (Fx.w rows (rows.length - 1))) else .non
theorem lens_k {rows : List Row} {k : Nat} (h : k < rows.length) : ((wAll rows).map lenV)[k]? = some (.int ((Fx.w rows k).length)) := by
  refine get_map (f := lenV) (x := Fx.w rows k) ?_
  unfold Fx.w
  rw [List.getD_eq_getElem?_getD, List.getElem?_eq_getElem (by rw [wAll_len]; exact h)]
  rfl
theorem w_sub {rows : List Row} (G : GoodSay rows) {k : Nat} {r : Row} (h : rows[k]? = some r) {n : Int} (hn : n ∈ r.nums) : (Fx.w rows n.toNat).length ≤ (Fx.w rows k).length := by
  rw [w_of G h, List.length_append]
  have : ∀ L : List (List Str), ∀ M ∈ L, M.length ≤ L.flatten.length := by
    intro L
    induction L with
    | nil => intro M hM; cases hM
    | cons A L ih =>
      intro M hM
      rw [List.flatten_cons, List.length_append]
      rcases List.mem_cons.mp hM with rfl | hM
      · omega
      · have := ih M hM
        omega
  have := this _ _ (List.mem_map.mpr ⟨n.toNat, List.mem_map.mpr ⟨n, hn, rfl⟩, rfl⟩ : Fx.w rows n.toNat ∈ (r.nums.map Int.toNat).map (Fx.w rows))
  omega
theorem jn_w {rows : List Row} (G : GoodSay rows) {k : Nat} {r : Row} (h : rows[k]? = some r) (hb : (Fx.w rows k).length ≤ 400) : jn (r.words ++ r.nums.map fun n => txS rows n.toNat) = jn (Fx.w rows k) := by
  have e : (r.nums.map fun n => txS rows n.toNat) = ((r.nums.map Int.toNat).map (Fx.w rows)).map jn := by
    rw [List.map_map, List.map_map]
    refine List.map_congr_left fun n hn => ?_
    have := w_sub G h hn
    show txS rows n.toNat = jn (Fx.w rows n.toNat)
    unfold txS
    rw [if_pos (by omega)]
  have kl : k < rows.length := (List.getElem?_eq_some_iff.mp h).1
  rw [e, w_of G h, jn_flat]
  · intro z
    have := words_ne (r := r)
    rw [z] at this
    simp at this
  · intro L hL
    obtain ⟨m, hm, rfl⟩ := List.mem_map.mp hL
    obtain ⟨n, hn, rfl⟩ := List.mem_map.mp hm
    have b := nums_in (G.gr k r h) n hn
    have := w_ne (rows := rows) (List.getElem?_eq_getElem (show n.toNat < rows.length by omega))
    intro z
    rw [z] at this
    simp at this
theorem sum_le {l : List Str} {m : Nat} (h : ∀ x ∈ l, x.length ≤ m) : (l.map (·.length)).sum ≤ m * l.length := by
  induction l with
  | nil => exact Nat.zero_le _
  | cons x l ih =>
    have h1 := h x List.mem_cons_self
    have h2 := ih fun y hy => h y (List.mem_cons_of_mem _ hy)
    rw [List.map_cons, List.sum_cons, List.length_cons, Nat.mul_succ]
    omega
theorem tx_len {rows : List Row} (G : GoodSay rows) {k : Nat} (h : k < rows.length) : (txS rows k).length ≤ 3600 := by
  unfold txS
  split
  · have := jn_len _ (w_short G.gr rows.length k h)
    omega
  · rw [List.getElem?_eq_getElem h]
    have := jn_len _ (words_short (G.gr k _ (List.getElem?_eq_getElem h)))
    have := words_le rows[k]
    show (jn _).length ≤ 3600
    omega
theorem tx_at {rows : List Row} {i m : Nat} (h : m < i) : atI (((List.range i).map (txS rows)).map V.str) ((m : Nat) : Int) = some (.str (txS rows m)) := by
  rw [List.map_map]
  exact atI_nat (get_map (f := V.str ∘ txS rows) (List.getElem?_range h))
def spLText (K : PySem.W.Frag) : Sp := fun vs H Q _ => ∃ (t : Addr) (rows : List Row), vs = [.ref t] ∧ SayAt K H t rows ∧ GoodSay rows ∧ ∀ H', Same H H' → Q (textV rows) H'
theorem ok_ltext {f : Addr} {fd : FuncData} (F : Fun K "_law_text" "_law_text" s_law_text f fd) (T : Bi mg) (c_law_counts : Cal P w K mg base 2 "_law_counts" ["_law_saying_here"] (spWin K)) (c_law_row_words : Cal P w K mg base 1 "_law_row_words" ["_law_row_here"] (spRWords K)) (c_law_row_numbers : Cal P w K mg base 1 "_law_row_numbers" ["_law_row_here"] (spRNums K)) : FnOk P w K mg base CX0 3 f fd ["_law_saying_here"] (spLText K) := by
  refine F.ok sc_law_text (fun vs H Q E h => ?_) (fun cdv A outer s H vs Q E hr h => ?_)
  · obtain ⟨t, rows, rfl, _⟩ := h
    rfl
  · obtain ⟨t, rows, rfl, SY, g, q⟩ := h
    obtain ⟨ra, hra, hr2⟩ := SY.ex
    have hl : ra.length = rows.length := hr2.len
    have lo := g.lo
    have hi := g.hi
    refine ⟨_, (pss_cons (ps_set (i := 1) sc_law_text.nd rfl (.inl rfl) (pe_call c_law_counts.G hr (by rfl) c_law_counts.g c_law_counts.kp c_law_counts.b .nil pass0 (pa_cons (pv 0) pa_nil)))
      (pss_cons (ps_if (pt_cmpR op_gt (pe_ix ix_list (pv 1) (pe_un un_neg pe_int) (fun _ _ => rfl)) pe_int (nomark _))
        (pss_one (ps_ret pe_non))
        pss_nil)
      (pss_cons (ps_set (i := 2) sc_law_text.nd rfl (.inr rfl) (pe_lst pa_nil))
      (pss_cons (ps_for PassesOwn.never rfl (pi_range1 (by rfl) T.range (pa_cons (pe_callB call_len_seq (by rfl) T.len PySem.boot_len (pa_cons (pv 0) pa_nil)) pa_nil)) (pg_name (i := 3) sc_law_text.nd rfl (.inl rfl))
        (pss_cons (ps_set (i := 4) sc_law_text.nd rfl (.inl rfl) (pe_call c_law_row_words.G (hr.mono (by decide)) (by rfl) c_law_row_words.g c_law_row_words.kp c_law_row_words.b .nil pass0 (pa_cons (pe_ix ix_tup (pv 0) (pv 3) (fun _ _ => rfl)) pa_nil)))
        (Evl.pss_cut (ps_if (pt_cmpR op_le (pe_ix ix_list (pv 1) (pv 3) (fun _ _ => rfl)) pe_int (nomark _))
          (pss_one (ps_set (i := 4) sc_law_text.nd rfl (.inl rfl) (pe_op op_cat (pv 4) (pe_lc (own := [("_law_j", 5)]) (g := gName 5) rfl sc_law_text.nd (pi_list (pe_call c_law_row_numbers.G (hr.mono (by decide)) (by rfl) c_law_row_numbers.g c_law_row_numbers.kp c_law_row_numbers.b .nil pass0 (pa_cons (pe_ix ix_tup (pv 0) (pv 3) (fun _ _ => rfl)) pa_nil))) (blkOk_by (own := [("_law_j", 5)]) (N := ["_law_saying_here", "_law_counts_here", "_law_texts", "_law_k", "_law_words", "_law_j"]) (sc := defScope s_law_text) (by decide +kernel)) (fun _ _ _ _ _ => (pg_name (i := 5) sc_law_text.nd rfl (.inl rfl))) (fun _ _ _ _ _ => pts_nil) (fun _ _ _ _ _ => (pe_ix (ixL K) (pv 2) (pv 5) (fun _ _ => rfl)))))))
          pss_nil)
        (pss_one (ps_expr (pe_bm PySem.F.plainAttrs_list PySem.F.slot_list_append PySem.F.type_list_append mt_append (pv 2) (pa_cons (pe_join pe_str (pv 4)) pa_nil)))))))
      (pss_one (ps_ret (pe_ix ix_list (pv 2) (pe_un un_neg pe_int) (fun _ _ => rfl)))))))), ?_⟩
    refine ⟨_, rfl, t, rows, rfl, SY, g, fun H1 cl s1 hc => ⟨_, rfl, _, rfl, cl, _, _, _, rfl, rfl, hc, atI_lastD (by rw [wAll_len]; exact lo), _, _, rfl, rfl, _, rfl, ?_⟩⟩
    rw [wAll_len, show (wAll rows).getD (rows.length - 1) [] = Fx.w rows (rows.length - 1) from rfl]
    by_cases hb : (Fx.w rows (rows.length - 1)).length ≤ 400
    case neg =>
      rw [decide_eq_true (by omega)]
      have e : textV rows = .non := by
        unfold textV
        rw [if_neg hb]
      rw [e] at q
      exact iteT (q H1 s1)
    rw [decide_eq_false (by omega)]
    refine iteF ⟨Nat.zero_le _, fun tl htl => ?_⟩
    have s2 := same_upd (o := .lst []) htl
    refine ⟨_, rfl, t, _, rfl, .inr (ssqt (s1.trans s2) hra), ?_⟩
    rw [List.length_map, hl]
    refine ⟨_, rfl, by omega, by omega, for_range (lo := 0) (n := ((rows.length : Nat) : Int).toNat) (fun i σ H' => ∃ y1 y2, σ = [some (.ref t), some (.ref cl), some (.ref tl), y1, y2, none] ∧ Same H1 H' ∧ H' tl = some (.lst (((List.range i).map (txS rows)).map V.str))) ⟨none, none, rfl, s2, upd_same⟩ ?_ ?_⟩
    · rintro i σ H2 hi ⟨y1, y2, rfl, s3, h2⟩
      have hi : i < rows.length := hi
      have hri : rows[i]? = some rows[i] := List.getElem?_eq_getElem hi
      generalize rows[i] = r at hri
      have gr := g.gr i r hri
      obtain ⟨a, ha, hr3⟩ := hr2.getx hri
      have nl := nums_le gr
      have wl := words_le r
      refine ⟨_, rfl, _, rfl, t, _, _, .ref a, rfl, rfl, ssqt (s1.trans s3) hra, by rw [Int.zero_add]; exact atI_nat (get_map ha), a, r, i, rfl, ssqt (s1.trans s3) hr3, gr, fun H3 p3 s4 hp3 => ?_⟩
      have hc3 := s4.seq (s3.seq hc)
      have h3 := s4 _ _ h2
      have s14 := s3.trans s4
      refine ⟨fun σ H' => ∃ (p : Addr) (L : List Str), σ = [some (.ref t), some (.ref cl), some (.ref tl), some (.int (0 + i)), some (.ref p), none] ∧ Same H1 H' ∧ H' tl = some (.lst (((List.range i).map (txS rows)).map V.str)) ∧ SqL K H' p (L.map V.str) ∧ jn L = txS rows i ∧ L.length ≤ 4 ∧ ∀ x ∈ L, x.length ≤ 3600, ?_, ?_⟩
      · refine ⟨_, rfl, _, rfl, cl, _, _, _, rfl, rfl, hc3, by rw [Int.zero_add]; exact atI_nat (lens_k hi), _, _, rfl, rfl, _, rfl, ?_⟩
        by_cases h4 : (Fx.w rows i).length ≤ 400
        · rw [decide_eq_true (by omega)]
          refine iteT ⟨_, rfl, _, rfl, _, rfl, t, _, _, .ref a, rfl, rfl, ssqt (s1.trans s14) hra, by rw [Int.zero_add]; exact atI_nat (get_map ha), a, r, i, rfl, ssqt s4 (ssqt (s1.trans s3) hr3), gr, fun H5 p5 s5 hp5 => ⟨p5, rfl, ⟨_, SqL.of hp5⟩, fun D hD => ?_⟩⟩
          have h5 := s5 _ _ h3
          refine lc_listS (fun j acc => acc = ((r.nums.take j).map fun n => V.str (txS rows n.toNat))) (SqL.of hp5) hD (by rw [List.length_map]; omega) rfl (fun _ => rfl) (fun j x H6 acc hj s6 p6 _ N1 N2 n1 n2 => ?_) (fun H6 acc s6 hD6 _ p6 => ?_)
          · rw [List.getElem?_map] at hj
            obtain ⟨n, hn1, rfl⟩ := Option.map_eq_some_iff.mp hj
            obtain ⟨b1, b2⟩ := nums_in gr n (List.mem_of_getElem? hn1)
            obtain ⟨m, rfl⟩ : ∃ m : Nat, n = (m : Int) := ⟨n.toNat, by omega⟩
            refine ⟨_, rfl, _, rfl, tl, _, _, _, rfl, rfl, SqL.of (s6 _ _ h5), tx_at (by omega), ?_⟩
            refine n1 _ H6 (Same.refl _) ?_
            rw [p6, List.take_add_one, hn1, List.map_append]
            rfl
          · subst p6
            rw [List.length_map, List.take_length] at hD6
            refine ⟨p3, D, _, _, rfl, rfl, s6 _ _ (s5 _ _ hp3), hD6, szOk (by rw [List.length_map, List.length_map]; omega), fun p hp => ?_⟩
            have s7 := same_upd (o := .lst (r.words.map V.str ++ r.nums.map fun n => V.str (txS rows n.toNat))) hp
            refine ⟨p, r.words ++ r.nums.map fun n => txS rows n.toNat, rfl, ((s14.trans s5).trans s6).trans s7, s7 _ _ (s6 _ _ h5), ?_, ?_, ?_, ?_⟩
            · refine SqL.of ?_
              rw [upd_same, List.map_append, List.map_map]
              rfl
            · rw [jn_w g hri h4]
              unfold txS
              rw [if_pos h4]
            · rw [List.length_append, List.length_map]
              omega
            · intro x hx
              rcases List.mem_append.mp hx with hx | hx
              · have := words_short gr x hx
                omega
              · obtain ⟨n, hn, rfl⟩ := List.mem_map.mp hx
                have b := nums_in gr n hn
                exact tx_len g (by omega)
        · rw [decide_eq_false (by omega)]
          refine iteF ⟨p3, r.words, rfl, s14, h3, SqL.of hp3, ?_, by omega, fun x hx => ?_⟩
          · unfold txS
            rw [if_neg h4, hri]
          · have := words_short gr x hx
            omega
      · rintro σ H4 ⟨p, L, rfl, s5, h4, hp, e, ll, lx⟩
        refine ⟨_, rfl, .inl ⟨rfl, _, SqL.of h4⟩, ⟨_, rfl⟩, _, rfl, _, p, L, rfl, rfl, .inl hp, ?_, ?_⟩
        · have := sum_le lx
          have h1 : (Str.ofString " ").length = 1 := by decide
          rw [h1]
          omega
        · refine ⟨tl, _, _, rfl, rfl, h4, szLt (by rw [List.length_map, List.length_map, List.length_range]; omega), ?_⟩
          refine ⟨_, _, rfl, smut s5 htl, ?_⟩
          rw [upd_same, List.range_succ, List.map_append, List.map_append]
          show some (HO.lst (_ ++ [V.str (Txt.join sp1 L)])) = _
          rw [join_txt, e]
          rfl
    · rintro σ H2 ⟨y1, y2, rfl, s3, h2⟩
      have h2 : H2 tl = some (.lst (((List.range rows.length).map (txS rows)).map V.str)) := h2
      obtain ⟨n, hn⟩ : ∃ n, rows.length = n + 1 := ⟨rows.length - 1, by omega⟩
      rw [hn] at hb
      refine ⟨_, rfl, _, rfl, tl, _, _, _, rfl, rfl, SqL.of h2, by rw [hn, List.range_succ, List.map_append, List.map_append]; exact atI_last _ _, ?_⟩
      have e : textV rows = .str (txS rows n) := by
        unfold textV txS
        have hb' : (Fx.w rows n).length ≤ 400 := hb
        rw [hn, if_pos hb, if_pos hb']
        rfl
      rw [← e]
      exact q H2 (s1.trans s3)
end

namespace SAY
open PySem PySem.Spec PyProof.Rows L2
/-- a list compared with one of another length, or an empty one -/
theorem op_eqNil {X : Cx} (hu : X.A.units + 64 < cLine) : OpR X (compareOp .Eq) (fun x y H Q => ∃ a b xs, x = .ref a ∧ y = .ref b ∧ SqL X.K H a xs ∧ SqL X.K H b [] ∧ Q (.bl xs.isEmpty) H) := by
  intro pins s σ H x y v u Q I rx ry h
  obtain ⟨a, b, xs, rfl, rfl, ha, hb, q⟩ := h
  cases rx
  cases ry
  obtain ⟨its, r1, p1, _⟩ := I.list ha
  obtain ⟨jts, r2, p2, _⟩ := I.list hb
  cases r2
  have hA : X.A.units < cLine := by omega
  cases r1 with
  | nil => exact SeqAt.eq_listAt (e := fun _ => true) p1.isList p2.isList rfl hA (fun j h1 _ => absurd h1 (by simp)) ⟨.bl true, H, I, rfl, q⟩
  | cons _ _ => exact SeqAt.eq_list_lengthsAt p1.isList p2.isList (by simp) hA ⟨.bl false, H, I, rfl, q⟩
end SAY

/-! ### d.setdefault(t, x), t a tuple of ints and texts -/
namespace SDT
open PySem PySem.Spec PyProof.Rows L2
section
variable {X : Cx} {pins : List (Addr × Obj)} {σ : L2.St} {H : Hp} {s : Shared} {a b : Addr} {r : Value} {d : V} {k : List Key} {A : Around} {E : Value → Shared → Prop}
theorem d_setd {kvs : List (List Key × V)} {Q : Value → Shared → Prop} (hu : A.units + 1 < cLine) (I : Inv X pins σ H s) (e : H a = some (.dT kvs)) (eb : H b = some (.tup (k.map kV))) (rd : RelV d r) (hl : kvs.length < sizeLine)
    (h1 : ∀ v, valV kvs k = some v → ∀ (w' : Value) (s' : Shared), Inv X pins σ H s' → RelV v w' → Q w' s') (h2 : valV kvs k = none → ∀ (w' : Value) (s' : Shared), Inv X pins σ (L2.upd H a (.dT (putK kvs k d))) s' → RelV d w' → Q w' s') :
    wpAny (model X.prog X.w) A (call (.builtin "dict.setdefault") [.ref a, .ref b, r]) Q E s := by
  obtain ⟨z, hd, xs, rel, dd⟩ := dt_of I.hok e
  have hz : xs.length ≤ sizeLine := by rw [← Paired.length rel]; exact z
  refine call_setdefault_heap (hsz := hz) (tupleKind_room_in1 hu) (key_of I.hok eb) hd dd (fun p hp => ?_) fun hn h' dd' hs => ?_
  · have q := rel.val k
    rw [hp] at q
    obtain ⟨v0, ev, rv⟩ : ∃ v0, valV kvs k = some v0 ∧ RelV v0 p.2 := by
      cases ev : valV kvs k with
      | none =>
        rw [ev] at q
        exact (show False from q).elim
      | some v0 =>
        rw [ev] at q
        exact ⟨v0, rfl, q⟩
    exact h1 v0 ev _ _ (I.tok _) rv
  · have q := rel.val k
    rw [hn] at q
    have ev : valV kvs k = none := by
      cases ev : valV kvs k with
      | none => rfl
      | some v0 =>
        rw [ev] at q
        exact (show False from q).elim
    have hl2 : (putK kvs k d).length ≤ sizeLine := by have := length_putK kvs k d; omega
    obtain ⟨q, es, ep, hq, g2, g3, g4, _, g5⟩ := dd'
    refine h2 ev _ _ (d_write I (by rw [e]; exact True.intro) hs ⟨q, hq⟩ ⟨hl2, hd, _, (rel.put k eb rd).keeps fun c ys ec => ?_, q, es, ep, hq, g2, g3, g4, g5⟩) rd
    rw [upd_ne (ne_of ec e (fun z => nomatch z))]
    exact ec
end
def tSet (td ty tx : TE) : TE := fun σ H Q => td σ H fun x H1 => ∃ a, x = .ref a ∧ IsD H1 a ∧ ty σ H1 fun y H2 => tx σ H2 fun z H3 => ∃ (kvs : List (List Key × V)) (k : List Key) (b : Addr), H3 a = some (.dT kvs) ∧ y = .ref b ∧ H3 b = some (.tup (k.map kV)) ∧ kvs.length < sizeLine ∧
  (∀ v, valV kvs k = some v → Q v H3) ∧ (valV kvs k = none → Q z (L2.upd H3 a (.dT (putK kvs k z))))
section
variable {X : Cx} {o e f : Expr} {td ty tx : TE} {apos cpos : Pos}
theorem pe_set (hu : X.A.units + 1 < cLine) (ho : PE X o td) (he : PE X e ty) (hf : PE X f tx) (m : M2 X o "setdefault" apos e f cpos) : PE X (.Call (.Attribute o "setdefault" apos) [e, f] [] cpos) (tSet td ty tx) := by
  refine ⟨fun pins s σ H Q I h => ?_⟩
  refine wpAny_Call_method m.base m.few m.line PySem.F.plainAttrs_dict PySem.F.slot_dict_setdefault PySem.F.type_dict_setdefault (L2.thn (ho.run pins s σ H _ I h) fun u s1 ⟨x, H1, I1, rx, a, ex, d, q1⟩ => ?_)
  subst ex
  obtain rfl : u = Value.ref a := rx
  obtain ⟨t1, t2, _⟩ := isD_at I1 d
  refine ⟨t1, t2, ?_⟩
  rw [m.trees]
  refine Calls.callWith_builtin rfl (Calls.evalArgs_plain (Calls.spliced_cons (L2.thn (he.run pins s1 σ H1 _ I1 q1) fun iv s2 ⟨y, H2, I2, ry, q2⟩ =>
    Calls.spliced_cons (L2.thn (hf.run pins s2 σ H2 _ I2 q2) fun fv s3 ⟨z, H3, I3, rz, kvs, k, b, ea, ey, eb, hl, q3, q4⟩ => Calls.spliced_nil ?_))))
  subst ey
  obtain rfl : iv = Value.ref b := ry
  exact d_setd hu I3 ea eb rz hl (fun v hv w' s4 I4 rw' => ⟨v, _, I4, rw', q3 v hv⟩) fun hn w' s4 I4 rw' => ⟨z, _, I4, rw', q4 hn⟩
end
end SDT

/-! ### xs.extend(a tuple) -/
namespace EXT
open PySem PySem.Spec PyProof.Rows L2
theorem extended (l : Addr) (xs : Array Value) (n : Nat) (b : Addr) (ys : Array Value) (m : Nat) (di : Option Addr) (sl : Array (Option Value)) (h0 : ¬(!xs.isEmpty && Builtin.List.listTooLong (xs.size + ys.size)) = true) (h1 : xs.size ≤ sizeLine) (h2 : xs.size + ys.size ≤ sizeLine + 1) :
    Meets (Builtin.«list.extend» ⟨[.ref l, .ref b], []⟩) (fun _ R s => s.heap.get? l = some { cls := .type "list", dict := none, data := .seq xs n, slots := #[] } ∧ s.heap.get? b = some { cls := .type "tuple", dict := di, data := .seq ys m, slots := sl } ∧
      R (.ok (.ret .none)) { s with heap := s.heap.update l (Obj.mapSeq fun x => x ++ ys), toks := s.toks }) :=
  .of_wp fun prog w A R s hyp => by
    obtain ⟨hp, gg, dd, tt, oo⟩ := s
    obtain ⟨at1, at2, hyp⟩ := hyp
    have ix := AutoSeq1.idx_int
    have q1 := AutoSeq1.sub_tuple_tuple
    have q2 := AutoSeq1.sub_list_list
    have q3 := AutoSeq1.sub_tuple_list
    have q4 := AutoSeq1.sub_list_tuple
    have hz : (xs ++ ys).size ≤ sizeLine + 1 := by rw [Array.size_append]; exact h2
    wp_walk using (wpAny_updateSeq at1 rfl (hz := h1) (_hz' := hz)), AutoSeq1.wpAny_loadPart' at1, AutoSeq1.wpAny_loadPart' at2
    exact ⟨_, rfl, hyp⟩
def rExtT (K : PySem.W.Frag) : V → List V → Hp → VK → Prop := fun x vs H Q => ∃ l b xs zs, x = .ref l ∧ vs = [.ref b] ∧ H l = some (.lst xs) ∧ SqT K H b zs ∧ xs.length + zs.length ≤ sizeLine ∧ Q .non (L2.upd H l (.lst (xs ++ zs)))
theorem mt_extT {X : Cx} : MtM X "list.extend" (rExtT X.K) := by
  intro pins s σ H x vs v us Q I rx rv h
  obtain ⟨l, b, xs, zs, rfl, rfl, hH, hB, hz, q⟩ := h
  cases rx
  obtain ⟨u, rfl, ru⟩ := rv.one
  cases ru
  obtain ⟨z, its, n, r, hl, e⟩ := I.lstM hH
  obtain ⟨jts, r2, ⟨ob, e2, hc, m, hd⟩, _⟩ := I.tuple hB
  obtain ⟨cls, di, da, sl⟩ := ob
  simp only at hc hd
  subst hc hd
  have l1 : its.toArray.size = xs.length := by rw [List.size_toArray, ← r.length]
  have l2 : jts.toArray.size = zs.length := by rw [List.size_toArray, ← r2.length]
  refine call_meets F.slot_list_extend ⟨_, e, rfl⟩ F.entry_list_extend (F.args_list_extend_2 _ _) (extended l its.toArray n b jts.toArray m di sl ?_ (by omega) (by omega)) ⟨e, e2, ?_⟩
  · rw [notLongL (by omega), Bool.and_false]
    exact Bool.false_ne_true
  · refine ⟨.non, _, I.lset (its' := its ++ jts) hH e (by simp) (r.append r2) ?_, rfl, q⟩
    rw [List.length_append]
    omega
end EXT

/-! ### own errors -/
structure XCls (K : PySem.W.Frag) (mg : Str → Option Value) (nm : Str) (C : Addr) : Prop where
  g : mg nm = some (.ref C)
  k : PySem.W.keepIn K (.ref C) = true
  b : PySem.W.subIn K (.ref C) (.type "BaseException") = some true
  t : PySem.W.typeIn K (.ref C) = some (.type "type")
  h : PySem.W.hasDictIn K C = true
theorem XCls.r {K : PySem.W.Frag} {mg : Str → Option Value} {nm : Str} {C : Addr} (_ : XCls K mg nm C) : RelV (.ref C) (.ref C) := rfl
/-- the error that is raised -/
structure XRai (K : PySem.W.Frag) (C : Addr) : Prop where
  x : PySem.W.excIn K C [.type "ValueError", .type "Exception", .type "BaseException", .type "object"] "ValueError.__new__" = true
  E : ExcC K C
  s : PySem.W.subIn K (.ref C) (.ref C) = some true
  v : PySem.W.subIn K (.ref C) (.type "ValueError") = some true
theorem XCls.exm {K : PySem.W.Frag} {mg : Str → Option Value} {nm : Str} {C D : Addr} {b : Bool} (c : XCls K mg nm C) (h : PySem.W.subIn K (.ref D) (.ref C) = some b) : PySem.W.exmOne K (.ref D) (.ref C) = some b :=
  PySem.W.exm_ref c.b c.h c.t h
theorem XCls.kit {K : PySem.W.Frag} {mg : Str → Option Value} {nm : Str} {C D : Addr} {b : Bool} (c : XCls K mg nm C) (r : XRai K D) (h : PySem.W.subIn K (.ref D) (.ref C) = some b) : PySem.W.kitOne K (.ref D) (.ref C) = some b := by
  have e := c.exm h
  unfold PySem.W.exmOne at e
  rw [if_pos (by rw [c.b] <;> rfl)] at e
  unfold PySem.W.kitOne
  by_cases q : (Value.ref D == Value.ref C) = true
  · rw [if_pos q]
    have q' : D = C := Value.ref.inj (eq_of_beq q)
    rw [q'] at h r
    rw [r.s] at h
    exact h
  · rw [if_neg q]
    exact e
theorem XRai.kit {K : PySem.W.Frag} {D : Addr} (r : XRai K D) : PySem.W.kitOne K (.ref D) (.type "ValueError") = some true := by
  unfold PySem.W.kitOne PySem.W.kitCls
  rw [if_neg (by intro q; exact absurd (eq_of_beq q) (by intro z; cases z))]
  change (if PySem.W.kitMeta "ValueError" = true then _ else _) = _
  rw [if_pos (by decide +kernel)]
  exact r.v
theorem zc_of {cls : Value} {d : Option Addr} {D : Addr} {oe : Obj} (hz : Zc cls d oe) (hp : cls = .ref D ∧ d = none) : Zc (.ref D) none oe := by
  obtain ⟨rfl, rfl⟩ := hp
  exact hz
theorem pss_when {X : Cx} {sts : List Stmt} {p : Prop} {t : TS} (h : p → PSs X sts t) : PSs X sts (fun D σ H => p ∧ t D σ H) := ⟨fun pins s σ H D I q => (h q.1).run pins s σ H D I q.2⟩
/-- a def that may raise, as callers see it -/
structure CalX (P : Program) (w : World) (K : PySem.W.Frag) (mg : Str → Option Value) (base : Heap) (k : Nat) (x : Str) (ps : List Str) (sp : Sp) where
  f : Addr
  fd : FuncData
  G : FnOk P w K mg base (L2.CX P w) k f fd ps sp
  g : mg x = some (.ref f)
  kp : PySem.W.keepIn K (.ref f) = true
  b : Binds K fd ps []
/-- the raised error, the base of all, two others -/
structure XSet (K : PySem.W.Frag) (mg : Str → Option Value) (nR nA nB : Str) where
  R : Addr
  T : Addr
  A : Addr
  B : Addr
  xR : XCls K mg nR R
  xT : XCls K mg "TreeError" T
  xA : XCls K mg nA A
  xB : XCls K mg nB B
  r : XRai K R
  sT : PySem.W.subIn K (.ref R) (.ref T) = some true
  sA : PySem.W.subIn K (.ref R) (.ref A) = some false
  sB : PySem.W.subIn K (.ref R) (.ref B) = some false

/-! ### names among texts -/
abbrev sis_name : Stmt := topS 7
theorem scis_name : FnScope ["thing", "sign"] ["thing"] (defScope sis_name) := ⟨rfl, rfl, rfl, by decide +kernel, rfl, by decide +kernel, by decide +kernel⟩
abbrev s_law_good_name : Stmt := topS 30
theorem sc_law_good_name : FnScope ["_law_thing", "_law_words", "_law_sign"] ["_law_thing"] (defScope s_law_good_name) := ⟨rfl, rfl, rfl, by decide +kernel, rfl, by decide +kernel, by decide +kernel⟩
section
variable {P : Program} {w : World} {K : PySem.W.Frag} {mg : Str → Option Value} {base : Heap}
def nmB (x : Str) : Bool := decide (1 ≤ x.length) && decide (x.length ≤ 8) && decide (x ∉ wordsL) && x.cps.toList.all fun c => decide (c ∈ lettersS.cps.toList)
theorem nm_eq {z : Str} : nmB z = (decide (1 ≤ z.length) && decide (z.length ≤ 8) && decide (z ∉ wordsL) && z.cps.toList.all fun c => decide (c ∈ lettersS.cps.toList)) := rfl
theorem nm_len {z : Str} (h : ¬ (1 ≤ z.length ∧ z.length ≤ 8)) : nmB z = false := by
  rw [nm_eq]
  by_cases h1 : 1 ≤ z.length
  · rw [decide_eq_true h1, decide_eq_false fun h2 => h ⟨h1, h2⟩]
    rfl
  · rw [decide_eq_false h1]
    rfl
theorem nm_word {z : Str} (h : z ∈ wordsL) : nmB z = false := by
  rw [nm_eq]
  rw [decide_eq_false (p := z ∉ wordsL) (fun k => k h), Bool.and_false]
  rfl
theorem nm_rest {z : Str} (h1 : 1 ≤ z.length) (h2 : z.length ≤ 8) (h3 : z ∉ wordsL) : nmB z = z.cps.toList.all fun c => decide (c ∈ lettersS.cps.toList) := by
  rw [nm_eq]
  rw [decide_eq_true h1, decide_eq_true h2, decide_eq_true h3]
  rfl
theorem nm_good {z : Str} : nmB z = true ↔ GoodName z := by
  rw [nm_eq, Bool.and_eq_true, Bool.and_eq_true, Bool.and_eq_true, List.all_eq_true]
  constructor
  · rintro ⟨⟨⟨a, b⟩, c⟩, d⟩
    exact ⟨of_decide_eq_true a, of_decide_eq_true b, of_decide_eq_true c, fun x hx => of_decide_eq_true (d x hx)⟩
  · intro g
    exact ⟨⟨⟨decide_eq_true g.lo, decide_eq_true g.hi⟩, decide_eq_true g.nw⟩, fun x hx => decide_eq_true (g.al x hx)⟩
theorem all_drop {z : Str} {i c : Nat} (h : z.cps[i]? = some c) : (z.cps.toList.drop i).all (fun c => decide (c ∈ lettersS.cps.toList)) = (decide (c ∈ lettersS.cps.toList) && (z.cps.toList.drop (i + 1)).all fun c => decide (c ∈ lettersS.cps.toList)) := by
  rw [← Array.getElem?_toList] at h
  obtain ⟨hi, rfl⟩ := List.getElem?_eq_some_iff.mp h
  rw [List.drop_eq_getElem_cons hi]
  rfl
def spNameS : Sp := fun vs H Q _ => ∃ z : Str, vs = [.str z] ∧ z.length ≤ 90000 ∧ ∀ H', Same H H' → Q (.bl (nmB z)) H'
theorem ok_nameS {f : Addr} {fd : FuncData} (F : Fun K "is_name" "is_name" sis_name f fd) (T : Bi mg) (W : Wd K mg) : FnOk P w K mg base CX0 1 f fd ["thing"] spNameS := by
  refine F.ok scis_name (fun vs H Q E h => ?_) (fun cdv A outer s H vs Q E hr h => ?_)
  · obtain ⟨z, rfl, _⟩ := h
    rfl
  · obtain ⟨z, rfl, hz, q⟩ := h
    have q := q H (Same.refl _)
    refine ⟨_, (pss_cons (ps_if (PW.pt (pw_or (pt_not (pt_val (pe_callB call_isi (by rfl) T.isinstance (by decide +kernel) (pa_cons (pv 0) (pa_cons (pe_bltn (v := .ty "str") (u := .type "str") (by rfl) T.str (by decide +kernel) rfl) pa_nil))))) (pw_or (pt_not (pt_chain op_le op_le pe_int (pe_callB call_len_str (by rfl) T.len PySem.boot_len (pa_cons (pv 0) pa_nil)) pe_int)) (pw_or1 (pt_cmpR op_in_seq (pv 0) (pe_glob rfl W.gWORDS W.rWORDS) (by rfl))))))
        (pss_one (ps_ret pe_bl))
        pss_nil)
      (pss_cons (ps_for PassesOwn.never rfl (pi_str (pv 0)) (pg_name (i := 1) scis_name.nd rfl (.inl rfl))
        (pss_one (ps_if (pt_cmpR op_notIn_sign (pv 1) (pe_glob rfl W.gLETTERS W.rLETTERS) (by rfl))
          (pss_one (ps_ret pe_bl))
          pss_nil)))
      (pss_one (ps_ret pe_bl)))), ?_⟩
    refine ⟨_, rfl, _, _, _, _, true, rfl, .ty "str", .base (.str _), kit_ty (by decide +kernel), true, rfl, iteF ?_⟩
    refine ⟨_, rfl, z, rfl, szOk (by omega), 1, _, rfl, rfl, _, rfl, ite2 (fun e => ?_) (fun e => ?_)⟩
    · have h1 : 1 ≤ z.length := by
        have := of_decide_eq_true e
        omega
      refine ⟨_, _, rfl, rfl, _, rfl, ite2 (fun e2 => ?_) (fun e2 => ?_)⟩
      · rw [nm_len fun h => notdec e2 (by omega)] at q
        exact iteT q
      · have h2 : z.length ≤ 8 := by
          have := dec_of e2
          omega
        refine ⟨_, rfl, _, _, rfl, .inr (W.sW _), rfl, flat_str _, _, rfl, ?_⟩
        rw [inV_str]
        refine ite2 (fun e3 => ?_) (fun e3 => ?_)
        · rw [nm_word (of_decide_eq_true e3)] at q
          exact q
        have h3 : z ∉ wordsL := fun k => e3 (decide_eq_true k)
        rw [nm_rest h1 h2 h3] at q
        refine ⟨_, rfl, z, rfl, for_it walk_str (fun i σ H' => ∃ y, σ = [some (.str z), y] ∧ H' = H ∧ z.cps.toList.all (fun c => decide (c ∈ lettersS.cps.toList)) = (z.cps.toList.drop i).all fun c => decide (c ∈ lettersS.cps.toList)) ⟨_, rfl, rfl, rfl⟩ (fun _ _ _ _ _ => trivial) ?_ ?_⟩
        · rintro i x σ H1 H2 hi ⟨y, rfl, rfl, e4⟩ ⟨rfl, c, hc, rfl⟩
          rw [all_drop hc] at e4
          refine ⟨_, rfl, c, lettersS, rfl, rfl, _, rfl, ite2 (fun e5 => ?_) (fun e5 => ⟨_, rfl, rfl, ?_⟩)⟩
          · rw [decide_eq_false (notdec e5), Bool.false_and] at e4
            rw [e4] at q
            exact q
          · rw [e4, decide_eq_true (dec_of e5), Bool.true_and]
        · rintro σ H1 ⟨y, rfl, rfl, e4⟩
          rw [List.drop_of_length_le (by rw [Array.length_toList]; exact Nat.le_refl _)] at e4
          rw [e4] at q
          exact q
    · rw [nm_len fun h => e (decide_eq_true (by omega))] at q
      exact ⟨_, rfl, iteT q⟩
theorem ok_goodS {f : Addr} {fd : FuncData} (F : Fun K "_law_good_name" "_law_good_name" s_law_good_name f fd) (T : Bi mg) : FnOk P w K mg base CX0 1 f fd ["_law_thing"] spNameS := by
  refine F.ok sc_law_good_name (fun vs H Q E h => ?_) (fun cdv A outer s H vs Q E hr h => ?_)
  · obtain ⟨z, rfl, _⟩ := h
    rfl
  · obtain ⟨z, rfl, hz, q⟩ := h
    refine ⟨_, (pss_cons (ps_set (i := 1) sc_law_good_name.nd rfl (.inl rfl) (pe_lst (pa_cons pe_str (pa_cons pe_str (pa_cons pe_str (pa_cons pe_str (pa_cons pe_str (pa_cons pe_str (pa_cons pe_str (pa_cons pe_str (pa_cons pe_str (pa_cons pe_str (pa_cons pe_str (pa_cons pe_str (pa_cons pe_str pa_nil)))))))))))))))
      (pss_cons (ps_if (PW.pt (pw_or (pt_not (pt_val (pe_callB call_isi (by rfl) T.isinstance (by decide +kernel) (pa_cons (pv 0) (pa_cons (pe_bltn (v := .ty "str") (u := .type "str") (by rfl) T.str (by decide +kernel) rfl) pa_nil))))) (pw_or (pt_cmpR op_lt (pe_callB call_len_str (by rfl) T.len PySem.boot_len (pa_cons (pv 0) pa_nil)) pe_int (nomark _)) (pw_or (pt_cmpR op_gt (pe_callB call_len_str (by rfl) T.len PySem.boot_len (pa_cons (pv 0) pa_nil)) pe_int (nomark _)) (pw_or1 (pt_cmpR op_in_seq (pv 0) (pv 1) (by rfl)))))))
        (pss_one (ps_ret pe_bl))
        pss_nil)
      (pss_one (ps_ret (pe_cmpR (SAY.op_eqNil hr.units) (pe_lc (own := [("_law_sign", 2)]) (g := gName 2) rfl sc_law_good_name.nd (pi_str (pv 0)) (blkOk_by (own := [("_law_sign", 2)]) (N := ["_law_thing", "_law_words", "_law_sign"]) (sc := defScope s_law_good_name) (by decide +kernel)) (fun _ _ _ _ _ => (pg_name (i := 2) sc_law_good_name.nd rfl (.inl rfl))) (fun _ _ _ _ _ => (pts_one (pt_cmpR op_notIn_sign (pv 2) pe_str (by rfl)))) (fun _ _ _ _ _ => (pv 2))) (pe_lst pa_nil) (nomark _)))))), ?_⟩
    refine ⟨by show 13 ≤ sizeLine; decide, fun l hl => ?_⟩
    have s0 : Same H (L2.upd H l (.lst (wordsL.map V.str))) := same_upd hl
    have hl0 : (L2.upd H l (.lst (wordsL.map V.str))) l = some (.lst (wordsL.map V.str)) := upd_same
    refine ⟨_, rfl, _, _, _, _, true, rfl, .ty "str", .base (.str _), kit_ty (by decide +kernel), true, rfl, iteF ?_⟩
    refine ⟨_, rfl, z, rfl, szOk (by omega), _, _, rfl, rfl, _, rfl, ite2 (fun e => ?_) (fun e => ?_)⟩
    · have := q _ s0
      rw [nm_len fun h => by have := of_decide_eq_true e; omega] at this
      exact iteT this
    · refine ⟨_, rfl, z, rfl, szOk (by omega), _, _, rfl, rfl, _, rfl, ite2 (fun e2 => ?_) (fun e2 => ?_)⟩
      · have := q _ s0
        rw [nm_len fun h => by have := of_decide_eq_true e2; omega] at this
        exact iteT this
      · have h1 : 1 ≤ z.length := by
          have : ¬ ((z.length : Int) < 1) := fun k => e (decide_eq_true k)
          omega
        have h2 : z.length ≤ 8 := by
          have : ¬ ((8 : Int) < (z.length : Int)) := fun k => e2 (decide_eq_true k)
          omega
        refine ⟨_, rfl, _, rfl, l, _, rfl, .inl (SqL.of hl0), rfl, flat_str _, _, rfl, ?_⟩
        rw [inV_str]
        refine ite2 (fun e3 => ?_) (fun e3 => ?_)
        · have := q _ s0
          rw [nm_word (of_decide_eq_true e3)] at this
          exact this
        have h3 : z ∉ wordsL := fun k => e3 (decide_eq_true k)
        have hDn : ∀ D, (L2.upd H l (.lst (wordsL.map V.str))) D = none → H D = none := fun D hD => by
          cases e : H D with
          | none => rfl
          | some o => exact nomatch hD.symm.trans (s0 _ _ e)
        refine ⟨_, rfl, z, rfl, fun D hD => lc_it walk_str (fun i H' => ∃ gs : List Str, Same H H' ∧ H' D = some (.lst (gs.map V.str)) ∧ gs.length ≤ i ∧ (decide (gs = []) && (z.cps.toList.drop i).all (fun c => decide (c ∈ lettersS.cps.toList))) = z.cps.toList.all fun c => decide (c ∈ lettersS.cps.toList))
          ⟨[], s0.trans (same_upd hD), upd_same, Nat.le_refl _, rfl⟩ (fun _ _ _ _ => trivial) ?_ ?_⟩
        · have hDH := hDn D hD
          rintro i x H1 H2 hi ⟨gs, s1, hD1, lg, eg⟩ ⟨rfl, c, hc, rfl⟩
          rw [all_drop hc] at eg
          refine ⟨rfl, _, rfl, c, lettersS, rfl, rfl, _, rfl, ite2 (fun e5 => ⟨_, rfl, _, hD1, szLt (by rw [List.length_map]; have : z.cps.size = z.length := rfl; omega), gs ++ [⟨#[c]⟩], smut s1 hDH, ?_, ?_, ?_⟩) (fun e5 => ⟨gs, s1, hD1, by omega, ?_⟩)⟩
          · rw [upd_same, List.map_append]
            rfl
          · rw [List.length_append]
            show gs.length + 1 ≤ i + 1
            omega
          · rw [decide_eq_false (notdec e5), Bool.false_and, Bool.and_false] at eg
            rw [← eg, decide_eq_false (by simp), Bool.false_and]
          · rw [decide_eq_true (dec_of e5), Bool.true_and] at eg
            exact eg
        · rintro H1 ⟨gs, s1, hD1, lg, eg⟩
          refine ⟨Nat.zero_le _, fun p hp => ⟨D, p, _, rfl, rfl, SqL.of (same_upd hp _ _ hD1), SqL.of upd_same, ?_⟩⟩
          rw [List.drop_of_length_le (by rw [Array.length_toList]; exact Nat.le_refl _)] at eg
          have e : nmB z = (gs.map V.str).isEmpty := by
            rw [nm_rest h1 h2 h3, ← eg]
            cases gs <;> rfl
          rw [← e]
          exact q _ (s1.trans (same_upd hp))
end

structure Wg (K : PySem.W.Frag) (w : World) (mg : Str → Option Value) extends Wf K w mg where
  oP : ∀ x, partsL.lookup x = none → PySem.W.nsIn K aP x = some none
  oF : ∀ x, formsL.lookup x = none → PySem.W.nsIn K aF x = some none
theorem lookP {x : Str} {n : Nat} (h : partsL.lookup x = some n) : (x, n) ∈ partsL := by
  have : ∀ (l : List (Str × Nat)), l.lookup x = some n → (x, n) ∈ l := by
    intro l
    induction l with
    | nil => intro h; cases h
    | cons p l ih =>
      intro h
      obtain ⟨y, m⟩ := p
      rw [List.lookup_cons] at h
      by_cases e : (x == y) = true
      · rw [e] at h
        cases h
        rw [eq_of_beq e]
        exact List.mem_cons_self
      · rw [Bool.eq_false_iff.mpr e] at h
        exact List.mem_cons_of_mem _ (ih h)
  exact this _ h
theorem lookF {x : Str} {n : Nat} (h : formsL.lookup x = some n) : (x, n) ∈ formsL := by
  have : ∀ (l : List (Str × Nat)), l.lookup x = some n → (x, n) ∈ l := by
    intro l
    induction l with
    | nil => intro h; cases h
    | cons p l ih =>
      intro h
      obtain ⟨y, m⟩ := p
      rw [List.lookup_cons] at h
      by_cases e : (x == y) = true
      · rw [e] at h
        cases h
        rw [eq_of_beq e]
        exact List.mem_cons_self
      · rw [Bool.eq_false_iff.mpr e] at h
        exact List.mem_cons_of_mem _ (ih h)
  exact this _ h
theorem lookup_none {x : Str} : ∀ {l : List (Str × Nat)}, l.lookup x = none → x ∉ l.map (·.1)
  | [], _ => List.not_mem_nil
  | (y, m) :: l, h => by
    rw [List.lookup_cons] at h
    by_cases e : (x == y) = true
    · rw [e] at h
      cases h
    · rw [Bool.eq_false_iff.mpr e] at h
      rw [List.map_cons, List.mem_cons]
      rintro (rfl | k)
      · exact e (by simp)
      · exact lookup_none h k
theorem ns_none {K : PySem.W.Frag} {a : Addr} {es : Array DictEntry} {n : Nat} {ks : List Str} (l : K.lookup a = some ⟨.type "dict", none, .dict es n, #[]⟩) (m : ∀ e ∈ es.toList, ∃ x t, e.key = .str x t ∧ x ∈ ks) {z : Str} (hz : z ∉ ks) : PySem.W.nsIn K a z = some none := by
  unfold PySem.W.nsIn
  rw [l]
  dsimp only
  have h1 : es.toList.find? (·.key.isStr z) = none := List.find?_eq_none.mpr fun e he h => by
    obtain ⟨x, t, ek, hx⟩ := m e he
    rw [ek, PySem.W.isStr_of] at h
    have e2 : (x == z) = true := h
    exact hz (by rw [← eq_of_beq e2]; exact hx)
  rw [h1]
  dsimp only
  rw [if_neg]
  intro h
  obtain ⟨e, he, hr⟩ := List.any_eq_true.mp h
  obtain ⟨x, t, ek, _⟩ := m e he
  unfold DictEntry.refKey at hr
  rw [ek] at hr
  cases hr

/-! ### reading, plainly -/
abbrev Ky := List L2.Key
/-- the words of a row that end at a place, how many parts it has, how many words stand ahead of it -/
def headP (ws : List Str) (k : Nat) : Option (List Str × Nat × Nat) :=
  match formsL.lookup (ws.getD k sp1) with
  | some n => if k = 0 then none else if ws.getD (k - 1) sp1 ∈ whoseL then some ([ws.getD (k - 1) sp1, ws.getD k sp1], n, k - 1) else none
  | none => match partsL.lookup (ws.getD k sp1) with
    | some n => some ([ws.getD k sp1], n, k)
    | none => if nmB (ws.getD k sp1) = true then some ([Str.ofString "mark", ws.getD k sp1], 0, k) else none
def posK : List Ky → Nat → Ky → Option Int
  | [], _, _ => none
  | r :: rs, i, k => if r = k then some (i : Nat) else posK rs (i + 1) k
def kvsOf : List Ky → Nat → List (Ky × V)
  | [], _ => []
  | r :: rs, i => (r, .int (i : Nat)) :: kvsOf rs (i + 1)
theorem kvs_len : ∀ (rs : List Ky) (i : Nat), (kvsOf rs i).length = rs.length
  | [], _ => rfl
  | _ :: rs, i => by
    show (kvsOf rs (i + 1)).length + 1 = rs.length + 1
    rw [kvs_len rs]
theorem kvs_val (k : Ky) : ∀ (rs : List Ky) (i : Nat), valV (kvsOf rs i) k = (posK rs i k).map V.int
  | [], _ => rfl
  | r :: rs, i => by
    by_cases e : r = k
    · rw [show kvsOf (r :: rs) i = (r, .int (i : Nat)) :: kvsOf rs (i + 1) from rfl, valV_pos e]
      unfold posK
      rw [if_pos e]
      rfl
    · rw [show kvsOf (r :: rs) i = (r, .int (i : Nat)) :: kvsOf rs (i + 1) from rfl, valV_neg e, kvs_val k rs (i + 1)]
      rw [show posK (r :: rs) i k = if r = k then some (i : Int) else posK rs (i + 1) k from rfl, if_neg e]
theorem kvs_snoc (k : Ky) : ∀ (rs : List Ky) (i : Nat), kvsOf (rs ++ [k]) i = kvsOf rs i ++ [(k, .int ((i + rs.length : Nat) : Int))]
  | [], i => rfl
  | r :: rs, i => by
    show (r, V.int (i : Nat)) :: kvsOf (rs ++ [k]) (i + 1) = (r, V.int (i : Nat)) :: (kvsOf rs (i + 1) ++ [_])
    rw [kvs_snoc k rs (i + 1), List.length_cons, show i + 1 + rs.length = i + (rs.length + 1) by omega]
theorem kvs_put {rs : List Ky} {k : Ky} (h : posK rs 0 k = none) : putK (kvsOf rs 0) k (.int (rs.length : Nat)) = kvsOf (rs ++ [k]) 0 := by
  have e : ((kvsOf rs 0).any fun kv => decide (kv.1 = k)) = false := by
    rw [valV_any, kvs_val, h]
    rfl
  unfold putK
  rw [e, if_neg (by decide), kvs_snoc, Nat.zero_add]
theorem pos_lt {k : Ky} : ∀ {rs : List Ky} {i : Nat} {n : Int}, posK rs i k = some n → (i : Int) ≤ n ∧ n < i + rs.length ∧ rs[(n - i).toNat]? = some k
  | [], _, _, h => by cases h
  | r :: rs, i, n, h => by
    rw [show posK (r :: rs) i k = if r = k then some (i : Int) else posK rs (i + 1) k from rfl] at h
    rw [List.length_cons]
    by_cases e : r = k
    · rw [if_pos e] at h
      cases h
      refine ⟨Int.le_refl _, by omega, ?_⟩
      rw [Int.sub_self]
      show some r = _
      rw [e]
    · rw [if_neg e] at h
      obtain ⟨h1, h2, h3⟩ := pos_lt h
      refine ⟨by omega, by omega, ?_⟩
      rw [show (n - (i : Int)).toNat = (n - ((i + 1 : Nat) : Int)).toNat + 1 by omega, List.getElem?_cons_succ]
      exact h3
theorem pos_none {k : Ky} : ∀ {rs : List Ky} {i : Nat}, posK rs i k = none ↔ k ∉ rs
  | [], _ => ⟨fun _ => List.not_mem_nil, fun _ => rfl⟩
  | r :: rs, i => by
    rw [show posK (r :: rs) i k = if r = k then some (i : Int) else posK rs (i + 1) k from rfl, List.mem_cons]
    by_cases e : r = k
    · rw [if_pos e]
      exact ⟨fun h => (Option.some_ne_none _ h).elim, fun h => (h (Or.inl e.symm)).elim⟩
    · rw [if_neg e, pos_none]
      exact ⟨fun h q => q.elim (fun q => e q.symm) h, fun h q => h (Or.inr q)⟩
def rowsR (rows : List Ky) (k : Ky) : List Ky := match posK rows 0 k with
  | some _ => rows
  | none => rows ++ [k]
def numR (rows : List Ky) (k : Ky) : Int := (posK rows 0 k).getD (rows.length : Nat)
def keyR (h : List Str) (ps : List Int) : Ky := h.map Sum.inr ++ ps.map Sum.inl
/-- read from the right, m words left -/
def fin (ws : List Str) (m : Nat) (rows : List Ky) (st : List Int) : Option (List Ky × List Int) :=
  match m with
  | 0 => some (rows, st)
  | m + 1 => match headP ws m with
    | none => none
    | some (h, n, r) => if st.length < n then none else fin ws (min r m) (rowsR rows (keyR h (st.take n))) (numR rows (keyR h (st.take n)) :: st.drop n)
termination_by m
decreasing_by omega
theorem fin0 {ws : List Str} {rows : List Ky} {st : List Int} : fin ws 0 rows st = some (rows, st) := by rw [fin]
theorem finN {ws : List Str} {m : Nat} {rows : List Ky} {st : List Int} (e : headP ws m = none) : fin ws (m + 1) rows st = none := by rw [fin, e]
theorem finF {ws : List Str} {m n r : Nat} {h : List Str} {rows : List Ky} {st : List Int} (e : headP ws m = some (h, n, r)) (l : st.length < n) : fin ws (m + 1) rows st = none := by
  rw [fin, e]
  exact if_pos l
theorem finS {ws : List Str} {m n r : Nat} {h : List Str} {rows : List Ky} {st : List Int} (e : headP ws m = some (h, n, r)) (l : n ≤ st.length) (hr : r ≤ m) : fin ws (m + 1) rows st = fin ws r (rowsR rows (keyR h (st.take n))) (numR rows (keyR h (st.take n)) :: st.drop n) := by
  rw [fin, e]
  refine (if_neg (by omega)).trans ?_
  rw [Nat.min_eq_left hr]
def readP (ws : List Str) : Option (List Ky) := if 400 < ws.length then none else match fin ws ws.length [] [] with
  | none => none
  | some (rows, st) => if st.length = 1 ∧ rows.length ≤ 160 then some rows else none
theorem forms_no {x : Str} {n : Nat} (h : (x, n) ∈ formsL) : x ∉ whoseL := by
  have : ∀ p ∈ formsL, p.1 ∉ whoseL := by decide +kernel
  exact this _ h
theorem head_cases {ws : List Str} {k n r : Nat} {h : List Str} (e : headP ws k = some (h, n, r)) : ∃ h0 hs, h = h0 :: hs ∧ hs.length ≤ 1 ∧ n ≤ 2 ∧ ((h0 ∈ whoseL ∧ 1 ≤ k ∧ r = k - 1) ∨ (h0 ∉ whoseL ∧ r = k)) := by
  unfold headP at e
  split at e
  · rename_i n1 e1
    by_cases e0 : k = 0
    · rw [if_pos e0] at e
      cases e
    · rw [if_neg e0] at e
      by_cases e2 : ws.getD (k - 1) sp1 ∈ whoseL
      · rw [if_pos e2] at e
        cases e
        exact ⟨_, _, rfl, Nat.le_refl _, forms_le (lookF e1), .inl ⟨e2, by omega, rfl⟩⟩
      · rw [if_neg e2] at e
        cases e
  · split at e
    · rename_i n1 e1
      cases e
      exact ⟨_, _, rfl, Nat.zero_le _, parts_le (lookP e1), .inr ⟨(parts_no (lookP e1)).2, rfl⟩⟩
    · by_cases e2 : nmB (ws.getD k sp1) = true
      · rw [if_pos e2] at e
        cases e
        exact ⟨_, _, rfl, Nat.le_refl _, Nat.zero_le _, .inr ⟨by decide +kernel, rfl⟩⟩
      · rw [if_neg e2] at e
        cases e
theorem ws_at {ws : List Str} {k : Nat} (h : k < ws.length) : ws[k]? = some (ws.getD k sp1) := by
  rw [List.getD_eq_getElem?_getD, List.getElem?_eq_getElem h]
  rfl
structure RowsAt (K : PySem.W.Frag) (H : Hp) (c : Addr) (rows : List Ky) : Prop where
  ex : ∃ bs : List Addr, SqT K H c (bs.map V.ref) ∧ Each (fun a k => SqT K H a (k.map kV)) bs rows
theorem RowsAt.imm {K : PySem.W.Frag} {H H' : Hp} {t : Addr} {rows : List Ky} (S : RowsAt K H t rows) (e : Imm H H') : RowsAt K H' t rows := by
  obtain ⟨ra, h1, h2⟩ := S.ex
  exact ⟨ra, e.sq h1, h2.imp fun _ _ h => e.sq h⟩
theorem key_v (h : List Str) (ps : List Int) : h.map V.str ++ ps.map V.int = (keyR h ps).map kV := by
  unfold keyR
  rw [List.map_append, List.map_map, List.map_map]
  rfl
section
variable {X : Cx}
def rCatX (K : PySem.W.Frag) : R2 := fun x y H Q => ∃ a b xs ys, x = .ref a ∧ y = .ref b ∧ H a = some (.tup xs) ∧ xs ≠ [] ∧ SqT K H b ys ∧ xs.length + ys.length ≤ sizeLine ∧ ∀ c H', Same H H' → H' c = some (.tup (xs ++ ys)) → Q (.ref c) H'
theorem op_catX : OpR X (binaryOp .Add) (rCatX X.K) := fun pins s σ H x y v u Q I rx ry ⟨a, b, xs, ys, h1, h2, h3, h0, h4, h5, q⟩ => op_catA pins s σ H x y v u Q I rx ry ⟨a, b, xs, ys, h1, h2, SqT.of h3, h4, h5,
  ⟨fun e => absurd e h0, fun _ e => q a H (Same.refl _) (by rw [e, List.append_nil]; exact h3), fun _ _ p hp => q p _ (same_upd hp) upd_same⟩⟩
end

structure XOne (K : PySem.W.Frag) (mg : Str → Option Value) (nR : Str) where
  R : Addr
  xR : XCls K mg nR R
  r : XRai K R

/-! ### fairtrees.notes.read -/
theorem popB {X : Cx} {o : Expr} {to : TE} {apos cpos : Pos} (K : PySem.W.Frag) (ho : PE X o to) (h : X.K = K := by rfl) (hbase : attributeBase o "pop" X.env (eval o X.env) = eval o X.env := by rfl) (hline : (apos.endLine == cpos.line) = true := by rfl) :
    PE X (.Call (.Attribute o "pop" apos) [] [] cpos) (tBM0 K "list" rPop to) := by
  subst h
  exact pe_bm0 PySem.F.plainAttrs_list PySem.F.slot_list_pop PySem.F.type_list_pop mt_pop ho hbase hline
abbrev shead_before : Stmt := topS 19
theorem schead_before : FnScope ["words", "at", "word"] ["words", "at"] (defScope shead_before) := ⟨rfl, rfl, rfl, by decide +kernel, rfl, by decide +kernel, by decide +kernel⟩
abbrev sread : Stmt := topS 20
theorem scread : FnScope ["text", "words", "rows", "held", "at", "head", "many", "row", "part"] ["text"] (defScope sread) := ⟨rfl, rfl, rfl, by decide +kernel, rfl, by decide +kernel, by decide +kernel⟩
section
variable {P : Program} {w : World} {K : PySem.W.Frag} {mg : Str → Option Value} {base : Heap}
def spHB (K : PySem.W.Frag) (cE : Addr) : Sp := fun vs H Q E => ∃ (wl : Addr) (ws : List Str) (k : Nat), vs = [.ref wl, .int (k : Nat)] ∧ H wl = some (.lst (ws.map V.str)) ∧ k < ws.length ∧ (∀ x ∈ ws, x.length ≤ 90000) ∧
  (∀ h n r, headP ws k = some (h, n, r) → ∀ H' t hp, Same H H' → SqT K H' t [.ref hp, .int (n : Nat)] → H' hp = some (.tup (h.map V.str)) → Q (.ref t) H') ∧ (headP ws k = none → ∀ H', Same H H' → E (.ref cE) none H')
theorem ok_hb {f : Addr} {fd : FuncData} (F : Fun K "head_before" "head_before" shead_before f fd) (T : Bi mg) (W : Wg K w mg) (S : XOne K mg "NoText") (cis_name : Cal P w K mg base 1 "is_name" ["thing"] spNameS) : FnOk P w K mg base (L2.CX P w) 2 f fd ["words", "at"] (spHB K S.R) := by
  have xNoText := S.xR
  have rE := S.r
  refine F.okX schead_before (fun vs H Q E h => ?_) (fun cdv A outer s H vs Q E hr h => ?_)
  · obtain ⟨wl, ws, k, rfl, _⟩ := h
    rfl
  · obtain ⟨wl, ws, k, rfl, hw, hk, hz, q1, q2⟩ := h
    have ax := ws_at hk
    have lx : (ws.getD k sp1).length ≤ 90000 := hz _ (List.mem_of_getElem? ax)
    refine ⟨_, (pss_cons (ps_set (i := 2) schead_before.nd rfl (.inl rfl) (pe_ix ix_list (pv 0) (pv 1) (fun _ _ => rfl)))
      (pss_cons (ps_if (pt_cmpR (op_in_kd W.dFORMS) (pv 2) (pe_glob rfl W.gFORMS W.rFORMS) (by rfl))
        (pss_cons (ps_if (PW.pt (pw_or (pt_cmpR op_eq (pv 1) pe_int (nomark _)) (pw_or1 (pt_cmpR op_notIn_seq (pe_ix ix_list (pv 0) (pe_op op_sub (pv 1) pe_int) (fun _ _ => rfl)) (pe_glob rfl W.gWHOSE W.rWHOSE) (by rfl)))))
          (pss_one (ps_raise rfl (takes_of rfl rfl rfl rfl) (pmk_own PySem.F.excBase_ValueError rE.x xNoText.g xNoText.k (raises_own xNoText.b xNoText.t) rfl)))
          pss_nil)
        (pss_one (ps_ret (pe_tup (pa_cons (pe_tup (pa_cons (pe_ix ix_list (pv 0) (pe_op op_sub (pv 1) pe_int) (fun _ _ => rfl)) (pa_cons (pv 2) pa_nil))) (pa_cons (pe_ix ix_kdict (pe_glob rfl W.gFORMS W.rFORMS) (pv 2) (fun _ _ => rfl)) pa_nil))))))
        pss_nil)
      (pss_cons (ps_if (pt_cmpR (op_in_kd W.dPARTS) (pv 2) (pe_glob rfl W.gPARTS W.rPARTS) (by rfl))
        (pss_one (ps_ret (pe_tup (pa_cons (pe_tup (pa_cons (pv 2) pa_nil)) (pa_cons (pe_ix ix_kdict (pe_glob rfl W.gPARTS W.rPARTS) (pv 2) (fun _ _ => rfl)) pa_nil)))))
        pss_nil)
      (pss_cons (ps_if (pt_not (pt_val (pe_call cis_name.G hr (by rfl) cis_name.g cis_name.kp cis_name.b .nil pass0 (pa_cons (pv 2) pa_nil))))
        (pss_one (ps_raise rfl (takes_of rfl rfl rfl rfl) (pmk_own PySem.F.excBase_ValueError rE.x xNoText.g xNoText.k (raises_own xNoText.b xNoText.t) rfl)))
        pss_nil)
      (pss_one (ps_ret (pe_tup (pa_cons (pe_tup (pa_cons pe_str (pa_cons (pv 2) pa_nil))) (pa_cons pe_int pa_nil))))))))), ?_⟩
    refine ⟨_, rfl, _, rfl, wl, _, _, _, rfl, rfl, SqL.of hw, atI_nat (get_map ax), ?_⟩
    unfold headP at q1 q2
    generalize ws.getD k sp1 = x at ax lx q1 q2
    cases hf : formsL.lookup x with
    | some n =>
      rw [hf] at q1 q2
      obtain ⟨u, e1, e2⟩ := W.kF _ (lookF hf)
      refine ⟨_, rfl, _, _, rfl, rfl, e1, true, rfl, iteT ?_⟩
      by_cases h0 : k = 0
      · subst h0
        refine ⟨_, rfl, rfl, _, rfl, iteT ?_⟩
        exact q2 rfl H (Same.refl _)
      · have ay := ws_at (show k - 1 < ws.length by omega)
        have ek : ((k : Int) - 1) = ((k - 1 : Nat) : Int) := by omega
        refine ⟨_, rfl, rfl, _, rfl, ?_⟩
        rw [dec_int, decide_eq_false (by omega)]
        refine iteF ⟨_, rfl, _, rfl, _, _, rfl, rfl, wl, _, _, _, rfl, rfl, SqL.of hw, by rw [ek]; exact atI_nat (get_map ay), _, _, rfl, .inr (W.sH _), rfl, flat_str _, _, rfl, ?_⟩
        rw [inV_str]
        generalize ws.getD (k - 1) sp1 = y at ay q1 q2
        by_cases hy : y ∈ whoseL
        · rw [decide_eq_true hy]
          refine iteF ⟨_, rfl, _, rfl, _, _, rfl, rfl, wl, _, _, _, rfl, rfl, SqL.of hw, by rw [ek]; exact atI_nat (get_map ay), _, rfl, by show 2 ≤ sizeLine; decide, fun hp hhp => ?_⟩
          refine ⟨_, rfl, _, _, _, rfl, rfl, ⟨_, _, _, W.dFORMS.at_, W.dFORMS.lit, e1, e2⟩, by show 2 ≤ sizeLine; decide, fun t ht => ?_⟩
          have s1 := same_upd (o := .tup [.str y, .str x]) hhp
          have s2 := same_upd (o := .tup [.ref hp, .int n]) ht
          exact q1 [y, x] n (k - 1) ((if_neg h0).trans (if_pos hy)) _ t hp (s1.trans s2) (SqT.of upd_same) (s2 _ _ upd_same)
        · rw [decide_eq_false hy]
          exact iteT (q2 ((if_neg h0).trans (if_neg hy)) H (Same.refl _))
    | none =>
      rw [hf] at q1 q2
      refine ⟨_, rfl, _, _, rfl, rfl, W.oF x hf, false, rfl, iteF ?_⟩
      cases hp : partsL.lookup x with
      | some n =>
        rw [hp] at q1 q2
        obtain ⟨u, e1, e2⟩ := W.kP _ (lookP hp)
        refine ⟨_, rfl, _, _, rfl, rfl, e1, true, rfl, iteT ?_⟩
        refine ⟨_, rfl, by show 1 ≤ sizeLine; decide, fun hp hhp => ?_⟩
        refine ⟨_, rfl, _, _, _, rfl, rfl, ⟨_, _, _, W.dPARTS.at_, W.dPARTS.lit, e1, e2⟩, by show 2 ≤ sizeLine; decide, fun t ht => ?_⟩
        have s1 := same_upd (o := .tup [.str x]) hhp
        have s2 := same_upd (o := .tup [.ref hp, .int n]) ht
        exact q1 [x] n k rfl _ t hp (s1.trans s2) (SqT.of upd_same) (s2 _ _ upd_same)
      | none =>
        rw [hp] at q1 q2
        refine ⟨_, rfl, _, _, rfl, rfl, W.oP x hp, false, rfl, iteF ?_⟩
        refine ⟨_, rfl, x, rfl, lx, fun H1 s1 => ⟨_, rfl, ?_⟩⟩
        cases hn : nmB x with
        | true =>
          rw [hn] at q1
          refine iteF ⟨_, rfl, by show 2 ≤ sizeLine; decide, fun hp hhp => ⟨by show 2 ≤ sizeLine; decide, fun t ht => ?_⟩⟩
          have s2 := same_upd (o := .tup [.str "mark", .str x]) hhp
          have s3 := same_upd (o := .tup [.ref hp, .int 0]) ht
          exact q1 [Str.ofString "mark", x] 0 k rfl _ t hp ((s1.trans s2).trans s3) (SqT.of upd_same) (s3 _ _ upd_same)
        | false =>
          rw [hn] at q2
          exact iteT (q2 rfl H1 s1)
/-- a list's last things are taken, one by one -/
def Off1 (l : Addr) (H H' : Hp) : Prop := ∀ b o, H b = some o → b ≠ l → H' b = some o
theorem cons_last {x : Int} {st : List Int} : ((x :: st).reverse.map V.int)[((x :: st).reverse.map V.int).length - 1]? = some (.int x) := by
  rw [List.reverse_cons, List.map_append, List.map_singleton]
  exact last_at
theorem cons_drop {x : Int} {st : List Int} : ((x :: st).reverse.map V.int).dropLast = st.reverse.map V.int := by
  rw [List.reverse_cons, List.map_append]
  exact List.dropLast_concat
def WR (ws : List Str) (v : V) (wl rl hl : Addr) (H0 : Hp) (m : Nat) (σ : L2.St) (H' : Hp) : Prop := ∃ (rows : List Ky) (st : List Int) (a : Int) (y5 y6 y7 : Option V), σ = [some v, some (.ref wl), some (.ref rl), some (.ref hl), some (.int a), y5, y6, y7, none] ∧ a + 1 = m ∧ Same H0 H' ∧
  H' wl = some (.lst (ws.map V.str)) ∧ H' rl = some (.dT (kvsOf rows 0)) ∧ H' hl = some (.lst (st.reverse.map V.int)) ∧ fin ws m rows st = fin ws ws.length [] [] ∧ rows.length + m ≤ ws.length ∧ st.length + m ≤ ws.length
structure Wr (K : PySem.W.Frag) (w : World) (mg : Str → Option Value) extends Wg K w mg where
  uW : Value
  gWORDY : mg "WORDY" = some uW
  rWORDY : RelV (.int 400) uW
theorem free_of {H H' : Hp} {p : Addr} (s : Same H H') (h : H' p = none) : H p = none := by
  cases e : H p with
  | none => rfl
  | some o =>
    rw [s _ _ e] at h
    cases h
def spRead (K : PySem.W.Frag) (cE : Addr) : Sp := fun vs H Q E => ∃ v, vs = [v] ∧ ((∃ z : Str, v = .str z ∧ z.length ≤ 80000 ∧ (∀ rows, readP (Txt.split z sp1) = some rows → ∀ H' c, Same H H' → RowsAt K H' c rows → Q (.ref c) H') ∧ (readP (Txt.split z sp1) = none → ∀ H', Same H H' → E (.ref cE) none H')) ∨
  ∃ t, TyX K H v t ∧ PySem.W.kitOne K t (.type "str") = some false ∧ ∀ H', Same H H' → E (.ref cE) none H')
theorem keys_each {H : Hp} : ∀ {rows : List Ky} {i : Nat} {bs : List Addr}, IsKeys H (kvsOf rows i) bs → Each (fun a k => H a = some (.tup (k.map kV))) bs rows
  | [], _, _, h => by
    cases h
    exact .nil
  | r :: rs, i, bs, h => by
    cases h with
    | cons h t => exact .cons h (keys_each t)
theorem ok_read {f : Addr} {fd : FuncData} (F : Fun K "read" "read" sread f fd) (T : Bi mg) (W : Wr K w mg) (S : XOne K mg "NoText") (chead_before : CalX P w K mg base 2 "head_before" ["words", "at"] (spHB K S.R)) : FnOk P w K mg base (L2.CX P w) 3 f fd ["text"] (spRead K S.R) := by
  have xNoText := S.xR
  have rE := S.r
  refine F.okX scread (fun vs H Q E h => ?_) (fun cdv A outer s H vs Q E hr h => ?_)
  · obtain ⟨v, rfl, _⟩ := h
    rfl
  · obtain ⟨v, rfl, h⟩ := h
    refine ⟨_, (pss_cons (ps_if (pt_not (pt_val (pe_callB call_isi (by rfl) T.isinstance (by decide +kernel) (pa_cons (pv 0) (pa_cons (pe_bltn (v := .ty "str") (u := .type "str") (by rfl) T.str (by decide +kernel) rfl) pa_nil)))))
        (pss_one (ps_raise rfl (takes_of rfl rfl rfl rfl) (pmk_own PySem.F.excBase_ValueError rE.x xNoText.g xNoText.k (raises_own xNoText.b xNoText.t) rfl)))
        pss_nil)
      (pss_cons (ps_set (i := 1) scread.nd rfl (.inl rfl) (pe_split (pv 0) pe_str))
      (pss_cons (ps_if (pt_cmpR op_gt (pe_callB call_len_seq (by rfl) T.len PySem.boot_len (pa_cons (pv 1) pa_nil)) (pe_glob rfl W.gWORDY W.rWORDY) (nomark _))
        (pss_one (ps_raise rfl (takes_of rfl rfl rfl rfl) (pmk_own PySem.F.excBase_ValueError rE.x xNoText.g xNoText.k (raises_own xNoText.b xNoText.t) rfl)))
        pss_nil)
      (pss_cons (ps_set (i := 2) scread.nd rfl (.inl rfl) pe_dnewT)
      (pss_cons (ps_set (i := 3) scread.nd rfl (.inr rfl) (pe_lst pa_nil))
      (pss_cons (ps_set (i := 4) scread.nd rfl (.inl rfl) (pe_op op_sub (pe_callB call_len_seq (by rfl) T.len PySem.boot_len (pa_cons (pv 1) pa_nil)) pe_int))
      (pss_cons (ps_while (passes_of rfl) (pt_cmpR op_ge (pv 4) pe_int (nomark _))
        (pss_cons (ps_asg (pe_callS chead_before.G hr (by rfl) chead_before.g chead_before.kp chead_before.b (fun σ => passAt (takes_of rfl rfl rfl rfl) σ) (pa_cons (pv 1) (pa_cons (pv 4) pa_nil))) (pg_tup rfl (pgs_cons (pg_name (i := 5) scread.nd rfl (.inl rfl)) (pgs_cons (pg_name (i := 6) scread.nd rfl (.inl rfl)) pgs_nil))))
        (Evl.pss_cut (ps_if (pt_cmpR op_in_seq (pe_ix ix_tup (pv 5) pe_int (fun _ _ => rfl)) (pe_glob rfl W.gWHOSE W.rWHOSE) (by rfl))
          (pss_one (ps_aug (i := 4) scread.nd rfl (.inl rfl) pe_int ip_sub))
          pss_nil)
        (pss_cons (ps_if (pt_cmpR op_gt (pv 6) (pe_callB call_len_seq (by rfl) T.len PySem.boot_len (pa_cons (pv 3) pa_nil)) (nomark _))
          (pss_one (ps_raise rfl (takes_of rfl rfl rfl rfl) (pmk_own PySem.F.excBase_ValueError rE.x xNoText.g xNoText.k (raises_own xNoText.b xNoText.t) rfl)))
          pss_nil)
        (pss_cons (ps_set (i := 7) scread.nd rfl (.inl rfl) (pe_op op_catX (pv 5) (pe_callTy call_tuple_of (by rfl) T.tuple (by decide +kernel) (pa_cons (pe_lc (own := [("part", 8)]) (g := gName 8) rfl scread.nd (pi_range1 (by rfl) T.range (pa_cons (pv 6) pa_nil)) (blkOk_by (own := [("part", 8)]) (N := ["text", "words", "rows", "held", "at", "head", "many", "row", "part"]) (sc := defScope sread) (by decide +kernel)) (fun _ _ _ _ _ => (pg_name (i := 8) scread.nd rfl (.inl rfl))) (fun _ _ _ _ _ => pts_nil) (fun _ _ _ _ _ => (popB K (pv 3)))) pa_nil))))
        (pss_cons (ps_expr (pe_bm PySem.F.plainAttrs_list PySem.F.slot_list_append PySem.F.type_list_append mt_append (pv 3) (pa_cons (SDT.pe_set (hu_of hr) (pv 2) (pv 7) (pe_callB call_len_dT (by rfl) T.len PySem.boot_len (pa_cons (pv 2) pa_nil)) ⟨by rfl, by rfl, by rfl, by rfl⟩) pa_nil)))
        (pss_one (ps_aug (i := 4) scread.nd rfl (.inl rfl) pe_int ip_sub))))))))
      (pss_cons (ps_if (PW.pt (pw_or (pt_cmpR op_ne (pe_callB call_len_seq (by rfl) T.len PySem.boot_len (pa_cons (pv 3) pa_nil)) pe_int (nomark _)) (pw_or1 (pt_cmpR op_gt (pe_callB call_len_dT (by rfl) T.len PySem.boot_len (pa_cons (pv 2) pa_nil)) (pe_glob rfl W.gLONGEST W.rLONGEST) (nomark _)))))
        (pss_one (ps_raise rfl (takes_of rfl rfl rfl rfl) (pmk_own PySem.F.excBase_ValueError rE.x xNoText.g xNoText.k (raises_own xNoText.b xNoText.t) rfl)))
        pss_nil)
      (pss_one (ps_ret (pe_callTy call_tuple_of (by rfl) T.tuple (by decide +kernel) (pa_cons (pe_callTy (call_list_dT rfl) (by rfl) T.list (by decide +kernel) (pa_cons (pv 2) pa_nil)) pa_nil)))))))))))), ?_⟩
    rcases h with ⟨z, rfl, lz, q1, q2⟩ | ⟨t, ty, kt, q⟩
    case inr => exact ⟨_, rfl, _, _, _, _, false, rfl, .ty "str", ty, kt, false, rfl, iteT (q H (Same.refl _))⟩
    refine ⟨_, rfl, _, _, _, _, true, rfl, .ty "str", .base (.str _), kit_ty (by decide +kernel), true, rfl, iteF ?_⟩
    refine ⟨_, rfl, ⟨_, rfl⟩, z, sp1, rfl, rfl, by decide, szOk (by omega), fun wl hwl => ?_⟩
    have hz : ∀ x ∈ Txt.split z sp1, x.length ≤ 90000 := fun x hx => Nat.le_trans (part_short hx) (by omega)
    generalize Txt.split z sp1 = ws at q1 q2 hz hwl
    have s1 := same_upd (o := .lst (ws.map V.str)) hwl
    have w1 : (L2.upd H wl (.lst (ws.map V.str))) wl = some (.lst (ws.map V.str)) := upd_same
    generalize L2.upd H wl (.lst (ws.map V.str)) = H1 at s1 w1
    refine ⟨_, rfl, wl, _, rfl, .inl (SqL.of w1), _, _, rfl, rfl, _, rfl, ?_⟩
    rw [List.length_map]
    by_cases hb : 400 < ws.length
    · rw [decide_eq_true (by omega)]
      exact iteT (q2 (if_pos hb) H1 s1)
    rw [decide_eq_false (by omega)]
    refine iteF fun rl hrl => ⟨Nat.zero_le _, fun hl hhl => ?_⟩
    have nrw : wl ≠ rl := ne_of_none w1 hrl
    have s2 := same_upd (o := .dT []) hrl
    have s3 := same_upd (o := .lst []) hhl
    have nhr : rl ≠ hl := ne_of_none upd_same hhl
    have nhw : wl ≠ hl := ne_of_none (s2 _ _ w1) hhl
    have frl : H rl = none := free_of s1 hrl
    have fhl : H hl = none := free_of (s1.trans s2) hhl
    have gr : (L2.upd (L2.upd H1 rl (.dT [])) hl (.lst [])) rl = some (.dT []) := s3 _ _ upd_same
    have gw : (L2.upd (L2.upd H1 rl (.dT [])) hl (.lst [])) wl = some (.lst (ws.map V.str)) := s3 _ _ (s2 _ _ w1)
    have gh : (L2.upd (L2.upd H1 rl (.dT [])) hl (.lst [])) hl = some (.lst []) := upd_same
    have sg := (s1.trans s2).trans s3
    generalize (L2.upd (L2.upd H1 rl (.dT [])) hl (.lst [])) = Hg at gr gw gh sg
    refine ⟨_, rfl, wl, _, rfl, .inl (SqL.of gw), _, _, rfl, rfl, ?_⟩
    rw [List.length_map]
    refine ⟨WR ws (.str z) wl rl hl H, ⟨ws.length, [], [], _, none, none, none, rfl, by omega, sg, gw, gr, gh, rfl, by simp, by simp⟩, ?_⟩
    rintro m σ H2 ⟨rows, st, a, y5, y6, y7, rfl, ha, s2, hw, hrl2, hhl2, e, lr, ls⟩
    refine ⟨_, rfl, _, _, rfl, rfl, _, rfl, ?_⟩
    cases m with
    | zero =>
      rw [decide_eq_false (by omega)]
      rw [fin0] at e
      refine ⟨_, rfl, hl, _, rfl, .inl (SqL.of hhl2), rfl, _, rfl, ?_⟩
      have q1' := q1 rows
      unfold readP at q1' q2
      rw [if_neg hb, ← e] at q1' q2
      rw [List.length_map, List.length_reverse]
      by_cases h1 : st.length = 1
      · rw [dec_int, decide_eq_true (by omega)]
        refine iteF ⟨_, rfl, rl, _, rfl, hrl2, _, _, rfl, rfl, _, rfl, ?_⟩
        rw [kvs_len]
        by_cases h2 : rows.length ≤ 160
        · rw [decide_eq_false (by omega)]
          refine iteF ⟨_, rfl, rl, _, rfl, .inl hrl2, fun p bs hp ik => ⟨p, _, rfl, .inl ⟨SqL.of upd_same, fun c hc => ?_⟩⟩⟩
          have s5 := same_upd (o := .lst (bs.map V.ref)) hp
          have s6 := same_upd (o := .tup (bs.map V.ref)) hc
          exact q1' (if_pos ⟨h1, h2⟩) _ c ((s2.trans s5).trans s6) ⟨bs, SqT.of upd_same, (keys_each ik).imp fun _ _ h => SqT.of (s6 _ _ (s5 _ _ h))⟩
        · rw [decide_eq_true (by omega)]
          exact iteT (q2 (if_neg fun h => h2 h.2) H2 s2)
      · rw [dec_int, decide_eq_false (by omega)]
        exact iteT (q2 (if_neg fun h => h1 h.1) H2 s2)
    | succ m =>
      obtain rfl : a = (m : Int) := by omega
      rw [decide_eq_true (by omega)]
      have hk : m < ws.length := by omega
      refine ⟨fun σ' H' => ∃ m', m' < m + 1 ∧ WR ws (.str z) wl rl hl H m' σ' H', fun _ _ h => h, ?_⟩
      refine ⟨_, rfl, _, rfl, wl, ws, m, rfl, hw, hk, hz, fun h n r eh H3 t hp s3 ht hhp => ?_, fun eh H3 s3 => ?_⟩
      case refine_2 =>
        rw [finN eh] at e
        refine q2 ?_ H3 (s2.trans s3)
        unfold readP
        rw [if_neg hb, ← e]
      obtain ⟨h0, hs, rfl, lh, n2, hr'⟩ := head_cases eh
      have hrm : r ≤ m := by omega
      have hw3 := s3 _ _ hw
      have hrl3 := s3 _ _ hrl2
      have hhl3 := s3 _ _ hhl2
      refine ⟨t, _, rfl, ht, rfl, _, _, rfl, _, _, rfl, rfl, ?_⟩
      refine ⟨fun σ' H' => σ' = [some (.str z), some (.ref wl), some (.ref rl), some (.ref hl), some (.int (r : Nat)), some (.ref hp), some (.int (n : Nat)), y7, none] ∧ H' = H3, ?_, ?_⟩
      · refine ⟨_, rfl, hp, _, 0, .str h0, rfl, rfl, SqT.of hhp, at_of (j := 0) rfl rfl, _, _, rfl, .inr (W.sH _), rfl, flat_str _, _, rfl, ?_⟩
        rw [inV_str]
        rcases hr' with ⟨b1, b2, rfl⟩ | ⟨b1, rfl⟩
        · rw [decide_eq_true b1]
          refine iteT ⟨_, rfl, _, _, rfl, rfl, ?_, rfl⟩
          rw [show ((m - 1 : Nat) : Int) = (m : Int) - 1 by omega]
          rfl
        · rw [decide_eq_false b1]
          exact iteF ⟨rfl, rfl⟩
      rintro σ H4 ⟨rfl, rfl⟩
      refine ⟨_, rfl, _, rfl, hl, _, rfl, .inl (SqL.of hhl3), _, _, rfl, rfl, _, rfl, ?_⟩
      rw [List.length_map, List.length_reverse]
      by_cases hn : st.length < n
      · rw [decide_eq_true (by omega)]
        rw [finF eh hn] at e
        refine iteT (q2 ?_ H4 (s2.trans s3))
        unfold readP
        rw [if_neg hb, ← e]
      rw [decide_eq_false (by omega)]
      rw [finS eh (by omega) hrm] at e
      refine iteF ⟨_, rfl, _, rfl, n, rfl, by omega, by omega, fun D hD => ?_⟩
      have nDh : D ≠ hl := (ne_of_none hhl3 hD).symm
      refine lc_range (lo := 0) (n := (n : Int).toNat) (fun i H' => Off1 hl H4 H' ∧ H' hl = some (.lst ((st.drop i).reverse.map V.int)) ∧ H' D = some (.lst ((st.take i).map V.int))) ⟨fun b o hb nb => by rw [upd_ne (ne_of_none hb hD)]; exact hb, by rw [upd_ne nDh.symm]; exact hhl3, upd_same⟩ (fun i H' hi p => ⟨rfl, ?_⟩) (fun H5 p => ?_)
      · have hi : i < n := hi
        obtain ⟨p1, p2, p3⟩ := p
        obtain ⟨x, st', hx, hx1, hx2⟩ : ∃ x st', st.drop i = x :: st' ∧ st.drop (i + 1) = st' ∧ st.take (i + 1) = st.take i ++ [x] := by
          have hl' : i < st.length := by omega
          exact ⟨_, _, List.drop_eq_getElem_cons hl', rfl, by rw [List.take_add_one, List.getElem?_eq_getElem hl']; rfl⟩
        rw [hx] at p2
        refine ⟨_, rfl, .inl ⟨rfl, _, SqL.of p2⟩, hl, _, _, rfl, rfl, p2, cons_last, ?_⟩
        refine ⟨_, by rw [upd_ne nDh]; exact p3, szLt (by rw [List.length_map, List.length_take]; omega), fun b o hb nb => ?_, ?_, ?_⟩
        · rw [upd_ne (ne_of_none hb hD), upd_ne nb]
          exact p1 b o hb nb
        · rw [upd_ne nDh.symm, upd_same, cons_drop, hx1]
        · rw [upd_same, hx2, List.map_append]
          rfl
      · obtain ⟨p1, p2, p3⟩ := p
        rw [Int.toNat_natCast] at p2 p3
        refine ⟨D, _, rfl, .inl ⟨SqL.of p3, fun tp htp => ⟨hp, tp, (h0 :: hs).map V.str, _, rfl, rfl, ?_, List.cons_ne_nil _ _, SqT.of upd_same, ?_, fun c H6 s6 hc => ?_⟩⟩⟩
        · rw [upd_ne (ne_of_none (p1 _ _ hhp (ne_of hhp hhl3 (by intro q; cases q))) htp)]
          exact p1 _ _ hhp (ne_of hhp hhl3 (by intro q; cases q))
        · exact szOk (by rw [List.length_map, List.length_map, List.length_take, List.length_cons]; omega)
        have s5 := same_upd (o := .tup ((st.take n).map V.int)) htp
        have s56 := s5.trans s6
        have hrl5 := s56 _ _ (p1 _ _ hrl3 nhr)
        have hw5 := s56 _ _ (p1 _ _ hw3 nhw)
        have hhl5 := s56 _ _ p2
        have sH : Same H H6 := fun b o hb => s56 _ _ (p1 _ _ (s3 _ _ (s2 _ _ hb)) (ne_of_none hb fhl))
        rw [show (h0 :: hs).map V.str ++ (st.take n).map V.int = (keyR (h0 :: hs) (st.take n)).map kV from key_v _ _] at hc
        have lrd : (kvsOf rows 0).length < sizeLine := szLt (by rw [kvs_len]; omega)
        refine ⟨_, rfl, .inl ⟨rfl, _, SqL.of hhl5⟩, _, rfl, rl, rfl, .inr ⟨_, .inl hrl5⟩, _, rfl, _, rfl, rl, _, rfl, hrl5, _, _, c, hrl5, rfl, hc, lrd, fun v hv => ?_, fun hv => ?_⟩
        · rw [kvs_val] at hv
          obtain ⟨i, hi, rfl⟩ := Option.map_eq_some_iff.mp hv
          refine ⟨hl, _, _, rfl, rfl, hhl5, szLt (by rw [List.length_map, List.length_reverse, List.length_drop]; omega), ?_⟩
          refine ⟨_, rfl, _, _, rfl, rfl, r, by omega, rows, i :: st.drop n, _, _, _, _, rfl, Int.sub_add_cancel _ _, smut sH fhl, ?_, ?_, ?_, ?_, ?_, ?_⟩
          · rw [upd_ne nhw]
            exact hw5
          · rw [upd_ne nhr]
            exact hrl5
          · rw [upd_same, List.reverse_cons, List.map_append]
            rfl
          · rw [← e]
            unfold rowsR numR
            rw [hi]
            rfl
          · omega
          · rw [List.length_cons, List.length_drop]
            omega
        · rw [kvs_val] at hv
          have hi : posK rows 0 (keyR (h0 :: hs) (st.take n)) = none := by
            cases e : posK rows 0 (keyR (h0 :: hs) (st.take n)) with
            | none => rfl
            | some i =>
              rw [e] at hv
              cases hv
          rw [kvs_len, kvs_put hi]
          refine ⟨hl, _, _, rfl, rfl, by rw [upd_ne nhr.symm]; exact hhl5, szLt (by rw [List.length_map, List.length_reverse, List.length_drop]; omega), ?_⟩
          refine ⟨_, rfl, _, _, rfl, rfl, r, by omega, rows ++ [keyR (h0 :: hs) (st.take n)], (rows.length : Nat) :: st.drop n, _, _, _, _, rfl, Int.sub_add_cancel _ _, smut (smut sH frl) fhl, ?_, ?_, ?_, ?_, ?_, ?_⟩
          · rw [upd_ne nhw, upd_ne nrw]
            exact hw5
          · rw [upd_ne nhr, upd_same]
          · rw [upd_same, List.reverse_cons, List.map_append]
            rfl
          · rw [← e]
            unfold rowsR numR
            rw [hi]
            rfl
          · rw [List.length_append]
            show rows.length + 1 + r ≤ _
            omega
          · rw [List.length_cons, List.length_drop]
            omega
end

/-! ### the law's own reading -/
abbrev s_law_many_parts : Stmt := topS 32
theorem sc_law_many_parts : FnScope ["_law_word"] ["_law_word"] (defScope s_law_many_parts) := ⟨rfl, rfl, rfl, by decide +kernel, rfl, by decide +kernel, by decide +kernel⟩
abbrev s_law_head : Stmt := topS 39
theorem sc_law_head : FnScope ["_law_words", "_law_k", "_law_word"] ["_law_words", "_law_k"] (defScope s_law_head) := ⟨rfl, rfl, rfl, by decide +kernel, rfl, by decide +kernel, by decide +kernel⟩
abbrev s_law_read : Stmt := topS 40
theorem sc_law_read : FnScope ["_law_text_here", "_law_words", "_law_rows", "_law_held", "_law_k", "_law_head_here", "_law_many", "_law_parts", "_law_row_here"] ["_law_text_here"] (defScope s_law_read) := ⟨rfl, rfl, rfl, by decide +kernel, rfl, by decide +kernel, by decide +kernel⟩
section
variable {P : Program} {w : World} {K : PySem.W.Frag} {mg : Str → Option Value} {base : Heap}
theorem cut_to {xs : List V} {k : Nat} : cutV xs none (some (k : Int)) = xs.take k := by
  unfold cutV
  rw [HT.sIx_nat, HT.sIx_none, Nat.sub_zero, List.drop_zero]
  rw [Nat.min_def]
  split
  · rfl
  · rw [List.take_of_length_le (Nat.le_refl _), List.take_of_length_le (by omega)]
def oneL : List Str := ["not", "step", "next", "once", "ever"]
def twoL : List Str := ["and", "or", "until", "unless"]
def partsN (x : Str) : Nat := if x ∈ oneL then 1 else if x ∈ twoL then 2 else 0
theorem parts_n {x : Str} {n : Nat} (h : partsL.lookup x = some n) : partsN x = n := by
  have : ∀ p ∈ partsL, partsN p.1 = p.2 := by decide +kernel
  exact this _ (lookP h)
theorem forms_n {x : Str} {n : Nat} (h : formsL.lookup x = some n) : partsN x = n := by
  have : ∀ p ∈ formsL, partsN p.1 = p.2 := by decide +kernel
  exact this _ (lookF h)
def partsK : List Str := ["yes", "no", "not", "and", "or", "step"]
def formsK : List Str := ["next", "once", "ever", "until", "unless"]
theorem lookup_mem {x : Str} : ∀ {l : List (Str × Nat)} {n : Nat}, l.lookup x = some n → x ∈ l.map (·.1)
  | [], _, h => by cases h
  | (y, m) :: l, n, h => by
    rw [List.lookup_cons] at h
    rw [List.map_cons, List.mem_cons]
    by_cases e : (x == y) = true
    · exact .inl (eq_of_beq e)
    · rw [Bool.eq_false_iff.mpr e] at h
      exact .inr (lookup_mem h)
theorem parts_0 {x : Str} (h1 : formsL.lookup x = none) (h2 : partsL.lookup x = none) : partsN x = 0 := by
  have a := lookup_none h1
  have b := lookup_none h2
  have h : ∀ y ∈ oneL ++ twoL, y ∈ formsL.map (·.1) ∨ y ∈ partsL.map (·.1) := by decide +kernel
  unfold partsN
  rw [if_neg fun e => (h x (List.mem_append.mpr (.inl e))).elim a b, if_neg fun e => (h x (List.mem_append.mpr (.inr e))).elim a b]
theorem head_n {ws : List Str} {k n r : Nat} {h : List Str} (e : headP ws k = some (h, n, r)) : partsN (ws.getD k sp1) = n := by
  unfold headP at e
  split at e
  · rename_i n1 e1
    by_cases e0 : k = 0
    · rw [if_pos e0] at e
      cases e
    · rw [if_neg e0] at e
      by_cases e2 : ws.getD (k - 1) sp1 ∈ whoseL
      · rw [if_pos e2] at e
        cases e
        exact forms_n e1
      · rw [if_neg e2] at e
        cases e
  · rename_i e1
    split at e
    · rename_i n1 e2
      cases e
      exact parts_n e2
    · rename_i e2
      by_cases e3 : nmB (ws.getD k sp1) = true
      · rw [if_pos e3] at e
        cases e
        exact parts_0 e1 e2
      · rw [if_neg e3] at e
        cases e
def spParts : Sp := fun vs H Q _ => ∃ (x : Str), vs = [.str x] ∧ ∀ H', Same H H' → Q (.int (partsN x)) H'
theorem ok_parts {f : Addr} {fd : FuncData} (F : Fun K "_law_many_parts" "_law_many_parts" s_law_many_parts f fd) : FnOk P w K mg base CX0 1 f fd ["_law_word"] spParts := by
  refine F.ok sc_law_many_parts (fun vs H Q E h => ?_) (fun cdv A outer s H vs Q E hr h => ?_)
  · obtain ⟨x, rfl, _⟩ := h
    rfl
  · obtain ⟨x, rfl, q⟩ := h
    refine ⟨_, (pss_cons (ps_if (pt_cmpR op_in_seq (pv 0) (pe_lst (pa_cons pe_str (pa_cons pe_str (pa_cons pe_str (pa_cons pe_str (pa_cons pe_str pa_nil)))))) (by rfl))
        (pss_one (ps_ret pe_int))
        pss_nil)
      (pss_cons (ps_if (pt_cmpR op_in_seq (pv 0) (pe_lst (pa_cons pe_str (pa_cons pe_str (pa_cons pe_str (pa_cons pe_str pa_nil))))) (by rfl))
        (pss_one (ps_ret pe_int))
        pss_nil)
      (pss_one (ps_ret pe_int)))), ?_⟩
    refine ⟨_, rfl, by show 5 ≤ sizeLine; decide, fun L hL => ?_⟩
    have sL := same_upd (o := .lst (oneL.map V.str)) hL
    have hL0 : (L2.upd H L (.lst (oneL.map V.str))) L = some (.lst (oneL.map V.str)) := upd_same
    refine ⟨L, _, rfl, .inl (SqL.of hL0), rfl, flat_str _, _, rfl, ?_⟩
    rw [inV_str]
    unfold partsN at q
    by_cases h1 : x ∈ oneL
    · rw [if_pos h1] at q
      rw [decide_eq_true h1]
      exact iteT (q _ sL)
    · rw [if_neg h1] at q
      rw [decide_eq_false h1]
      refine iteF ⟨_, rfl, by show 4 ≤ sizeLine; decide, fun M hM => ?_⟩
      have sM := same_upd (o := .lst (twoL.map V.str)) hM
      have hM0 : (L2.upd (L2.upd H L (.lst (oneL.map V.str))) M (.lst (twoL.map V.str))) M = some (.lst (twoL.map V.str)) := upd_same
      refine ⟨M, _, rfl, .inl (SqL.of hM0), rfl, flat_str _, _, rfl, ?_⟩
      rw [inV_str]
      by_cases h2 : x ∈ twoL
      · rw [if_pos h2] at q
        rw [decide_eq_true h2]
        exact iteT (q _ (sL.trans sM))
      · rw [if_neg h2] at q
        rw [decide_eq_false h2]
        exact iteF (q _ (sL.trans sM))
def headL (ws : List Str) (k : Nat) : List Str := match headP ws k with
  | some (h, _, _) => h
  | none => []
def spLH (K : PySem.W.Frag) : Sp := fun vs H Q _ => ∃ (wl : Addr) (ws : List Str) (k : Nat), vs = [.ref wl, .int (k : Nat)] ∧ H wl = some (.lst (ws.map V.str)) ∧ k < ws.length ∧ (∀ x ∈ ws, x.length ≤ 90000) ∧
  ∀ H' t, Same H H' → H' t = some (.tup ((headL ws k).map V.str)) → Q (.ref t) H'
theorem ok_lh {f : Addr} {fd : FuncData} (F : Fun K "_law_head" "_law_head" s_law_head f fd) (T : Bi mg) (c_law_good_name : Cal P w K mg base 1 "_law_good_name" ["_law_thing"] spNameS) : FnOk P w K mg base CX0 2 f fd ["_law_words", "_law_k"] (spLH K) := by
  refine F.ok sc_law_head (fun vs H Q E h => ?_) (fun cdv A outer s H vs Q E hr h => ?_)
  · obtain ⟨wl, ws, k, rfl, _⟩ := h
    rfl
  · obtain ⟨wl, ws, k, rfl, hw, hk, hz, q⟩ := h
    have ax := ws_at hk
    have lx : (ws.getD k sp1).length ≤ 90000 := hz _ (List.mem_of_getElem? ax)
    refine ⟨_, (pss_cons (ps_set (i := 2) sc_law_head.nd rfl (.inl rfl) (pe_ix ix_list (pv 0) (pv 1) (fun _ _ => rfl)))
      (pss_cons (ps_if (pt_cmpR op_in_seq (pv 2) (pe_lst (pa_cons pe_str (pa_cons pe_str (pa_cons pe_str (pa_cons pe_str (pa_cons pe_str pa_nil)))))) (by rfl))
        (pss_cons (ps_if (PW.pt (pw_or (pt_cmpR op_eq (pv 1) pe_int (nomark _)) (pw_or1 (pt_cmpR op_notIn_seq (pe_ix ix_list (pv 0) (pe_op op_sub (pv 1) pe_int) (fun _ _ => rfl)) (pe_lst (pa_cons pe_str (pa_cons pe_str pa_nil))) (by rfl)))))
          (pss_one (ps_ret (pe_tup pa_nil)))
          pss_nil)
        (pss_one (ps_ret (pe_tup (pa_cons (pe_ix ix_list (pv 0) (pe_op op_sub (pv 1) pe_int) (fun _ _ => rfl)) (pa_cons (pv 2) pa_nil))))))
        pss_nil)
      (pss_cons (ps_if (pt_cmpR op_in_seq (pv 2) (pe_lst (pa_cons pe_str (pa_cons pe_str (pa_cons pe_str (pa_cons pe_str (pa_cons pe_str (pa_cons pe_str pa_nil))))))) (by rfl))
        (pss_one (ps_ret (pe_tup (pa_cons (pv 2) pa_nil))))
        pss_nil)
      (pss_cons (ps_if (pt_val (pe_call c_law_good_name.G hr (by rfl) c_law_good_name.g c_law_good_name.kp c_law_good_name.b .nil pass0 (pa_cons (pv 2) pa_nil)))
        (pss_one (ps_ret (pe_tup (pa_cons pe_str (pa_cons (pv 2) pa_nil)))))
        pss_nil)
      (pss_one (ps_ret (pe_tup pa_nil))))))), ?_⟩
    refine ⟨_, rfl, _, rfl, wl, _, _, _, rfl, rfl, SqL.of hw, atI_nat (get_map ax), ?_⟩
    refine ⟨_, rfl, by show 5 ≤ sizeLine; decide, fun l hl => ?_⟩
    have s1 := same_upd (o := .lst (formsK.map V.str)) hl
    refine ⟨l, _, rfl, .inl (SqL.of (show (L2.upd H l (.lst (formsK.map V.str))) l = some (.lst (formsK.map V.str)) from upd_same)), rfl, flat_str _, _, rfl, ?_⟩
    rw [inV_str]
    have hw1 := s1 _ _ hw
    unfold headL headP at q
    generalize ws.getD k sp1 = x at ax lx q
    cases hf : formsL.lookup x with
    | some n =>
      rw [hf] at q
      rw [decide_eq_true (show x ∈ formsK from lookup_mem hf)]
      refine iteT ?_
      by_cases h0 : k = 0
      · subst h0
        refine ⟨_, rfl, rfl, _, rfl, iteT ⟨by show 0 ≤ sizeLine; decide, fun t ht => ?_⟩⟩
        exact q _ t (s1.trans (same_upd ht)) upd_same
      · have ay := ws_at (show k - 1 < ws.length by omega)
        have ek : ((k : Int) - 1) = ((k - 1 : Nat) : Int) := by omega
        refine ⟨_, rfl, rfl, _, rfl, ?_⟩
        rw [dec_int, decide_eq_false (by omega)]
        refine iteF ⟨_, rfl, _, rfl, _, _, rfl, rfl, wl, _, _, _, rfl, rfl, SqL.of hw1, by rw [ek]; exact atI_nat (get_map ay), ?_⟩
        refine ⟨by show 2 ≤ sizeLine; decide, fun l2 hl2 => ?_⟩
        have s2 := same_upd (o := .lst (whoseL.map V.str)) hl2
        refine ⟨l2, _, rfl, .inl (SqL.of (show (L2.upd (L2.upd H l (.lst (formsK.map V.str))) l2 (.lst (whoseL.map V.str))) l2 = some (.lst (whoseL.map V.str)) from upd_same)), rfl, flat_str _, _, rfl, ?_⟩
        rw [inV_str]
        have hw2 := s2 _ _ hw1
        generalize ws.getD (k - 1) sp1 = y at ay q
        dsimp only at q
        rw [if_neg h0] at q
        by_cases hy : y ∈ whoseL
        · rw [decide_eq_true hy]
          rw [if_pos hy] at q
          refine iteF ⟨_, rfl, _, rfl, _, _, rfl, rfl, wl, _, _, _, rfl, rfl, SqL.of hw2, by rw [ek]; exact atI_nat (get_map ay), _, rfl, by show 2 ≤ sizeLine; decide, fun t ht => ?_⟩
          exact q _ t ((s1.trans s2).trans (same_upd ht)) upd_same
        · rw [decide_eq_false hy]
          rw [if_neg hy] at q
          refine iteT ⟨by show 0 ≤ sizeLine; decide, fun t ht => ?_⟩
          exact q _ t ((s1.trans s2).trans (same_upd ht)) upd_same
    | none =>
      rw [hf] at q
      rw [decide_eq_false (show x ∉ formsK from lookup_none hf)]
      refine iteF ⟨_, rfl, by show 6 ≤ sizeLine; decide, fun l2 hl2 => ?_⟩
      have s2 := same_upd (o := .lst (partsK.map V.str)) hl2
      refine ⟨l2, _, rfl, .inl (SqL.of (show (L2.upd (L2.upd H l (.lst (formsK.map V.str))) l2 (.lst (partsK.map V.str))) l2 = some (.lst (partsK.map V.str)) from upd_same)), rfl, flat_str _, _, rfl, ?_⟩
      rw [inV_str]
      cases hp : partsL.lookup x with
      | some n =>
        rw [hp] at q
        rw [decide_eq_true (show x ∈ partsK from lookup_mem hp)]
        refine iteT ⟨_, rfl, by show 1 ≤ sizeLine; decide, fun t ht => ?_⟩
        exact q _ t ((s1.trans s2).trans (same_upd ht)) upd_same
      | none =>
        rw [hp] at q
        rw [decide_eq_false (show x ∉ partsK from lookup_none hp)]
        refine iteF ⟨_, rfl, x, rfl, lx, fun H3 s3 => ⟨_, rfl, ?_⟩⟩
        cases hn : nmB x with
        | true =>
          rw [hn] at q
          refine iteT ⟨_, rfl, by show 2 ≤ sizeLine; decide, fun t ht => ?_⟩
          exact q _ t (((s1.trans s2).trans s3).trans (same_upd ht)) upd_same
        | false =>
          rw [hn] at q
          refine iteF ⟨by show 0 ≤ sizeLine; decide, fun t ht => ?_⟩
          exact q _ t (((s1.trans s2).trans s3).trans (same_upd ht)) upd_same
theorem pos_snoc {k : Ky} : ∀ {rs : List Ky} {i : Nat}, posK rs i k = none → posK (rs ++ [k]) i k = some ((i + rs.length : Nat) : Int)
  | [], i, _ => by
    show (if k = k then some (i : Int) else none) = _
    rw [if_pos rfl]
    rfl
  | r :: rs, i, h => by
    rw [show posK (r :: rs) i k = if r = k then some (i : Int) else posK rs (i + 1) k from rfl] at h
    show (if r = k then some (i : Int) else posK (rs ++ [k]) (i + 1) k) = _
    by_cases e : r = k
    · rw [if_pos e] at h
      cases h
    · rw [if_neg e] at h ⊢
      rw [pos_snoc h, List.length_cons, show i + 1 + rs.length = i + (rs.length + 1) by omega]
theorem pos_rows (rows : List Ky) (k : Ky) : posK (rowsR rows k) 0 k = some (numR rows k) := by
  unfold rowsR numR
  cases e : posK rows 0 k with
  | some i => exact e
  | none =>
    show posK (rows ++ [k]) 0 k = _
    rw [pos_snoc e, Nat.zero_add]
    rfl
def WL (ws : List Str) (v : V) (wl rl : Addr) (H0 : Hp) (m : Nat) (σ : L2.St) (H' : Hp) : Prop := ∃ (hl : Addr) (rows : List Ky) (st : List Int) (a : Int) (y5 y6 y7 y8 : Option V), σ = [some v, some (.ref wl), some (.ref rl), some (.ref hl), some (.int a), y5, y6, y7, y8] ∧ a + 1 = m ∧ Same H0 H' ∧
  H' wl = some (.lst (ws.map V.str)) ∧ H' rl = some (.dT (kvsOf rows 0)) ∧ H' hl = some (.lst (st.reverse.map V.int)) ∧ fin ws m rows st = fin ws ws.length [] [] ∧ rows.length + m ≤ ws.length ∧ st.length + m ≤ ws.length ∧ H0 hl = none ∧ hl ≠ wl
def spLRead (K : PySem.W.Frag) : Sp := fun vs H Q _ => ∃ z : Str, vs = [.str z] ∧ z.length ≤ 80000 ∧ (∀ rows, readP (Txt.split z sp1) = some rows → ∀ H' c, Same H H' → RowsAt K H' c rows → Q (.ref c) H') ∧ (readP (Txt.split z sp1) = none → ∀ H', Same H H' → Q .non H')
theorem rev_take {st : List Int} {n : Nat} (h : n ≤ st.length) : (st.reverse.map V.int).take (st.length - n) = (st.drop n).reverse.map V.int := by
  rw [← List.map_take, List.take_reverse, show st.length - (st.length - n) = n by omega]
theorem rev_drop {st : List Int} {n : Nat} (h : n ≤ st.length) : ((st.reverse.map V.int).drop (st.length - n)).reverse = (st.take n).map V.int := by
  rw [← List.map_drop, List.drop_reverse, show st.length - (st.length - n) = n by omega, ← List.map_reverse, List.reverse_reverse]
theorem ok_lread {f : Addr} {fd : FuncData} (F : Fun K "_law_read" "_law_read" s_law_read f fd) (T : Bi mg) (c_law_head : Cal P w K mg base 2 "_law_head" ["_law_words", "_law_k"] (spLH K)) (c_law_many_parts : Cal P w K mg base 1 "_law_many_parts" ["_law_word"] spParts) : FnOk P w K mg base CX0 3 f fd ["_law_text_here"] (spLRead K) := by
  refine F.ok sc_law_read (fun vs H Q E h => ?_) (fun cdv A outer s H vs Q E hr h => ?_)
  · obtain ⟨z, rfl, _⟩ := h
    rfl
  · obtain ⟨z, rfl, lz, q1, q2⟩ := h
    refine ⟨_, (pss_cons (ps_set (i := 1) sc_law_read.nd rfl (.inl rfl) (pe_split (pv 0) pe_str))
      (pss_cons (ps_set (i := 2) sc_law_read.nd rfl (.inl rfl) pe_dnewT)
      (pss_cons (ps_set (i := 3) sc_law_read.nd rfl (.inl rfl) (pe_lst pa_nil))
      (pss_cons (ps_set (i := 4) sc_law_read.nd rfl (.inl rfl) (pe_op op_sub (pe_callB call_len_seq (by rfl) T.len PySem.boot_len (pa_cons (pv 1) pa_nil)) pe_int))
      (pss_cons (ps_while PassesOwn.never (PW.pt (pw_and (pt_cmpR op_ge (pv 4) pe_int (nomark _)) (pw_and1 (pt_cmpR op_le (pe_callB call_len_seq (by rfl) T.len PySem.boot_len (pa_cons (pv 1) pa_nil)) pe_int (nomark _)))))
        (pss_cons (ps_set (i := 5) sc_law_read.nd rfl (.inl rfl) (pe_call c_law_head.G hr (by rfl) c_law_head.g c_law_head.kp c_law_head.b .nil pass0 (pa_cons (pv 1) (pa_cons (pv 4) pa_nil))))
        (pss_cons (ps_set (i := 6) sc_law_read.nd rfl (.inl rfl) (pe_call c_law_many_parts.G (hr.mono (by decide)) (by rfl) c_law_many_parts.g c_law_many_parts.kp c_law_many_parts.b .nil pass0 (pa_cons (pe_ix ix_list (pv 1) (pv 4) (fun _ _ => rfl)) pa_nil)))
        (pss_cons (ps_if (PW.pt (pw_or (pt_cmpR op_eq (pe_callB call_len_seq (by rfl) T.len PySem.boot_len (pa_cons (pv 5) pa_nil)) pe_int (nomark _)) (pw_or1 (pt_cmpR op_gt (pv 6) (pe_callB call_len_seq (by rfl) T.len PySem.boot_len (pa_cons (pv 3) pa_nil)) (nomark _)))))
          (pss_one (ps_ret pe_non))
          pss_nil)
        (Evl.pss_cut (ps_if (PW.pt (pw_or (pt_cmpR op_eq (pe_ix ix_tup (pv 5) pe_int (fun _ _ => rfl)) pe_str (nomark _)) (pw_or1 (pt_cmpR op_eq (pe_ix ix_tup (pv 5) pe_int (fun _ _ => rfl)) pe_str (nomark _)))))
          (pss_one (ps_set (i := 4) sc_law_read.nd rfl (.inl rfl) (pe_op op_sub (pv 4) pe_int)))
          pss_nil)
        (pss_cons (ps_set (i := 7) sc_law_read.nd rfl (.inl rfl) (pe_slice sl_list (pv 3) (po_some (pe_op op_sub (pe_callB call_len_seq (by rfl) T.len PySem.boot_len (pa_cons (pv 3) pa_nil)) (pv 6))) po_none))
        (pss_cons (ps_set (i := 8) sc_law_read.nd rfl (.inl rfl) (pe_op op_catX (pv 5) (pe_callTy call_tuple_of (by rfl) T.tuple (by decide +kernel) (pa_cons (pe_revL (pv 7)) pa_nil))))
        (pss_cons (ps_set (i := 3) sc_law_read.nd rfl (.inl rfl) (pe_slice sl_list (pv 3) po_none (po_some (pe_op op_sub (pe_callB call_len_seq (by rfl) T.len PySem.boot_len (pa_cons (pv 3) pa_nil)) (pv 6)))))
        (Evl.pss_cut (ps_if (pt_cmp (pc_dnotin (hu_of hr) (pv 8) (pv 2)))
          (pss_one (ps_dput (hu_of hr) (pv 2) (pv 8) (pe_callB call_len_dT (by rfl) T.len PySem.boot_len (pa_cons (pv 2) pa_nil)) rfl))
          pss_nil)
        (pss_cons (ps_expr (pe_bm PySem.F.plainAttrs_list PySem.F.slot_list_append PySem.F.type_list_append mt_append (pv 3) (pa_cons (pe_dget (hu_of hr) (pv 2) (pv 8) (fun _ _ => rfl)) pa_nil)))
        (pss_one (ps_set (i := 4) sc_law_read.nd rfl (.inl rfl) (pe_op op_sub (pv 4) pe_int)))))))))))))
      (pss_cons (ps_if (PW.pt (pw_or (pt_cmpR op_gt (pe_callB call_len_seq (by rfl) T.len PySem.boot_len (pa_cons (pv 1) pa_nil)) pe_int (nomark _)) (pw_or (pt_cmpR op_ne (pe_callB call_len_seq (by rfl) T.len PySem.boot_len (pa_cons (pv 3) pa_nil)) pe_int (nomark _)) (pw_or1 (pt_cmpR op_gt (pe_callB call_len_dT (by rfl) T.len PySem.boot_len (pa_cons (pv 2) pa_nil)) pe_int (nomark _))))))
        (pss_one (ps_ret pe_non))
        pss_nil)
      (pss_one (ps_ret (pe_callTy call_tuple_of (by rfl) T.tuple (by decide +kernel) (pa_cons (pe_callTy (call_list_dT rfl) (by rfl) T.list (by decide +kernel) (pa_cons (pv 2) pa_nil)) pa_nil)))))))))), ?_⟩
    refine ⟨_, rfl, ⟨_, rfl⟩, z, sp1, rfl, rfl, by decide, szOk (by omega), fun wl hwl => ?_⟩
    have hz : ∀ x ∈ Txt.split z sp1, x.length ≤ 90000 := fun x hx => Nat.le_trans (part_short hx) (by omega)
    have lw : (Txt.split z sp1).length ≤ 80002 := Nat.le_trans (split_le z sp1) (by omega)
    have l1 : 1 ≤ (Txt.split z sp1).length := split_pos z sp1
    generalize Txt.split z sp1 = ws at q1 q2 hz hwl lw l1
    have s1 := same_upd (o := .lst (ws.map V.str)) hwl
    have w1 : (L2.upd H wl (.lst (ws.map V.str))) wl = some (.lst (ws.map V.str)) := upd_same
    generalize L2.upd H wl (.lst (ws.map V.str)) = H1 at s1 w1
    refine fun rl hrl => ⟨Nat.zero_le _, fun hl hhl => ?_⟩
    have nrw : wl ≠ rl := ne_of_none w1 hrl
    have s2 := same_upd (o := .dT []) hrl
    have s3 := same_upd (o := .lst []) hhl
    have nhw : wl ≠ hl := ne_of_none (s2 _ _ w1) hhl
    have frl : H rl = none := free_of s1 hrl
    have fhl : H hl = none := free_of (s1.trans s2) hhl
    have gr : (L2.upd (L2.upd H1 rl (.dT [])) hl (.lst [])) rl = some (.dT []) := s3 _ _ upd_same
    have gw : (L2.upd (L2.upd H1 rl (.dT [])) hl (.lst [])) wl = some (.lst (ws.map V.str)) := s3 _ _ (s2 _ _ w1)
    have gh : (L2.upd (L2.upd H1 rl (.dT [])) hl (.lst [])) hl = some (.lst []) := upd_same
    have sg := (s1.trans s2).trans s3
    generalize (L2.upd (L2.upd H1 rl (.dT [])) hl (.lst [])) = Hg at gr gw gh sg
    refine ⟨_, rfl, wl, _, rfl, .inl (SqL.of gw), _, _, rfl, rfl, ?_⟩
    rw [List.length_map]
    refine ⟨WL ws (.str z) wl rl H, ⟨ws.length, hl, [], [], _, none, none, none, none, rfl, Int.sub_add_cancel _ _, sg, gw, gr, gh, rfl, by simp, by simp, fhl, nhw.symm⟩, ?_⟩
    rintro m σ H2 ⟨hl, rows, st, a, y5, y6, y7, y8, rfl, ha, s2, hw, hrl2, hhl2, e, lr, ls, fhl, nhw⟩
    have stop : (m = 0 ∨ 400 < ws.length) → ∀ (G : Prop), True := fun _ _ => trivial
    refine ⟨_, rfl, _, _, rfl, rfl, _, rfl, ?_⟩
    cases m with
    | zero =>
      rw [decide_eq_false (by omega)]
      rw [fin0] at e
      refine ⟨_, rfl, wl, _, rfl, .inl (SqL.of hw), _, _, rfl, rfl, _, rfl, ?_⟩
      rw [List.length_map]
      by_cases hb : 400 < ws.length
      · rw [decide_eq_true (by omega)]
        exact iteT (q2 (if_pos hb) H2 s2)
      rw [decide_eq_false (by omega)]
      refine iteF ⟨_, rfl, hl, _, rfl, .inl (SqL.of hhl2), rfl, _, rfl, ?_⟩
      have q1' := q1 rows
      unfold readP at q1' q2
      rw [if_neg hb, ← e] at q1' q2
      rw [List.length_map, List.length_reverse]
      by_cases h1 : st.length = 1
      · rw [dec_int, decide_eq_true (by omega)]
        refine iteF ⟨_, rfl, rl, _, rfl, hrl2, _, _, rfl, rfl, _, rfl, ?_⟩
        rw [kvs_len]
        by_cases h2 : rows.length ≤ 160
        · rw [decide_eq_false (by omega)]
          refine iteF ⟨_, rfl, rl, _, rfl, .inl hrl2, fun p bs hp ik => ⟨p, _, rfl, .inl ⟨SqL.of upd_same, fun c hc => ?_⟩⟩⟩
          have s5 := same_upd (o := .lst (bs.map V.ref)) hp
          have s6 := same_upd (o := .tup (bs.map V.ref)) hc
          exact q1' (if_pos ⟨h1, h2⟩) _ c ((s2.trans s5).trans s6) ⟨bs, SqT.of upd_same, (keys_each ik).imp fun _ _ h => SqT.of (s6 _ _ (s5 _ _ h))⟩
        · rw [decide_eq_true (by omega)]
          exact iteT (q2 (if_neg fun h => h2 h.2) H2 s2)
      · rw [dec_int, decide_eq_false (by omega)]
        exact iteT (q2 (if_neg fun h => h1 h.1) H2 s2)
    | succ m =>
      obtain rfl : a = (m : Int) := by omega
      rw [decide_eq_true (by omega)]
      refine iteT ⟨_, rfl, wl, _, rfl, .inl (SqL.of hw), _, _, rfl, rfl, _, rfl, ?_⟩
      rw [List.length_map]
      by_cases hb : 400 < ws.length
      · rw [decide_eq_false (by omega)]
        refine ⟨_, rfl, wl, _, rfl, .inl (SqL.of hw), _, _, rfl, rfl, _, rfl, ?_⟩
        rw [List.length_map, decide_eq_true (by omega)]
        exact iteT (q2 (if_pos hb) H2 s2)
      rw [decide_eq_true (by omega)]
      have hk : m < ws.length := by omega
      have ax := ws_at hk
      refine ⟨fun σ' H' => ∃ m', m' < m + 1 ∧ WL ws (.str z) wl rl H m' σ' H', fun _ _ h => h, ?_⟩
      refine ⟨_, rfl, _, rfl, wl, ws, m, rfl, hw, hk, hz, fun H3 hp s3 hhp => ?_⟩
      have hw3 := s3 _ _ hw
      have hrl3 := s3 _ _ hrl2
      have hhl3 := s3 _ _ hhl2
      refine ⟨_, rfl, _, rfl, wl, _, _, _, rfl, rfl, SqL.of hw3, atI_nat (get_map ax), _, rfl, fun H4 s4 => ?_⟩
      refine ⟨_, rfl, hp, _, rfl, .inr (SqT.of (s4 _ _ hhp)), rfl, _, rfl, ?_⟩
      have s34 := s3.trans s4
      have hw4 := s4 _ _ hw3
      have hrl4 := s4 _ _ hrl3
      have hhl4 := s4 _ _ hhl3
      have hhp4 := s4 _ _ hhp
      unfold headL at hhp4
      cases eh : headP ws m with
      | none =>
        rw [eh] at hhp4
        rw [finN eh] at e
        have e0 : ((headL ws m).map V.str).length = 0 := by
          unfold headL
          rw [eh]
          rfl
        rw [e0, dec_int, decide_eq_true (show ((0 : Nat) : Int) = 0 from rfl)]
        refine iteT (q2 ?_ H4 (s2.trans s34))
        unfold readP
        rw [if_neg hb, ← e]
      | some hnr =>
        obtain ⟨h, n, r⟩ := hnr
        rw [eh] at hhp4
        obtain ⟨h0, hs, rfl, lh, n2, hr'⟩ := head_cases eh
        have hrm : r ≤ m := by omega
        have hhp4 : H4 hp = some (.tup ((h0 :: hs).map V.str)) := hhp4
        have e0 : ((headL ws m).map V.str).length = hs.length + 1 := by
          unfold headL
          rw [eh, List.length_map]
          rfl
        rw [e0, dec_int, decide_eq_false (by omega)]
        refine iteF ⟨_, rfl, _, rfl, hl, _, rfl, .inl (SqL.of hhl4), _, _, rfl, rfl, _, rfl, ?_⟩
        rw [List.length_map, List.length_reverse, head_n eh]
        by_cases hn : st.length < n
        · rw [decide_eq_true (by omega)]
          rw [finF eh hn] at e
          refine iteT (q2 ?_ H4 (s2.trans s34))
          unfold readP
          rw [if_neg hb, ← e]
        rw [decide_eq_false (by omega)]
        rw [finS eh (by omega) hrm] at e
        refine iteF ⟨fun σ' H' => σ' = [some (.str z), some (.ref wl), some (.ref rl), some (.ref hl), some (.int (r : Nat)), some (.ref hp), some (.int (n : Nat)), y7, y8] ∧ H' = H4, ?_, ?_⟩
        · refine ⟨_, rfl, hp, _, 0, .str h0, rfl, rfl, SqT.of hhp4, at_of (j := 0) rfl rfl, rfl, _, rfl, ?_⟩
          rw [dec_str]
          rcases hr' with ⟨b1, b2, rfl⟩ | ⟨b1, rfl⟩
          · have fi : tRet (tC .non) = tRet (tC .non) := rfl
            have rr : ((m - 1 : Nat) : Int) = (m : Int) - 1 := by omega
            by_cases h1 : h0 = Str.ofString "some"
            · rw [decide_eq_true h1]
              refine iteT ⟨_, rfl, _, _, rfl, rfl, ?_, rfl⟩
              rw [rr]
              rfl
            · rw [decide_eq_false h1]
              refine iteF ⟨_, rfl, hp, _, 0, .str h0, rfl, rfl, SqT.of hhp4, at_of (j := 0) rfl rfl, rfl, _, rfl, ?_⟩
              rw [dec_str, decide_eq_true (show h0 = Str.ofString "all" from by
                rcases List.mem_cons.mp b1 with q | q
                · exact absurd q h1
                · exact List.mem_singleton.mp q)]
              refine iteT ⟨_, rfl, _, _, rfl, rfl, ?_, rfl⟩
              rw [rr]
              rfl
          · rw [decide_eq_false (fun q => b1 (by rw [q]; decide +kernel))]
            refine iteF ⟨_, rfl, hp, _, 0, .str h0, rfl, rfl, SqT.of hhp4, at_of (j := 0) rfl rfl, rfl, _, rfl, ?_⟩
            rw [dec_str, decide_eq_false (fun q => b1 (by rw [q]; decide +kernel))]
            exact iteF ⟨rfl, rfl⟩
        rintro σ H5 ⟨rfl, rfl⟩
        have nl : n ≤ st.length := by omega
        refine ⟨_, rfl, _, rfl, hl, _, rfl, .inl (SqL.of hhl4), _, rfl, _, _, rfl, rfl, ((st.length - n : Nat) : Int), by rw [List.length_map, List.length_reverse, Int.ofNat_sub nl], hl, _, rfl, SqL.of hhl4, fun p1 hp1 => ?_⟩
        have s5 := same_upd (o := .lst (cutV (st.reverse.map V.int) (some ((st.length - n : Nat) : Int)) none)) hp1
        refine ⟨_, rfl, _, rfl, p1, _, rfl, SqL.of upd_same, fun p2 hp2 => ⟨p2, _, rfl, .inl ⟨SqL.of upd_same, fun p3 hp3 => ⟨hp, p3, (h0 :: hs).map V.str, _, rfl, rfl, ?_, List.cons_ne_nil _ _, SqT.of upd_same, ?_, fun c H6 s6 hc => ?_⟩⟩⟩⟩
        · exact same_upd hp3 _ _ (same_upd hp2 _ _ (s5 _ _ hhp4))
        · rw [cut_from (by rw [List.length_map, List.length_reverse]; omega), rev_drop nl]
          exact szOk (by rw [List.length_map, List.length_map, List.length_take, List.length_cons]; omega)
        rw [cut_from (by rw [List.length_map, List.length_reverse]; omega), rev_drop nl, key_v] at hc
        have s46 : Same H5 H6 := ((s5.trans (same_upd hp2)).trans (same_upd hp3)).trans s6
        have hw6 := s46 _ _ hw4
        have hrl6 := s46 _ _ hrl4
        have hhl6 := s46 _ _ hhl4
        generalize keyR (h0 :: hs) (st.take n) = key at hc e
        refine ⟨_, rfl, _, rfl, hl, _, rfl, .inl (SqL.of hhl6), _, rfl, _, _, rfl, rfl, ((st.length - n : Nat) : Int), by rw [List.length_map, List.length_reverse, Int.ofNat_sub nl], hl, _, rfl, SqL.of hhl6, fun l2 hl2 => ?_⟩
        have s7 := same_upd (o := .lst (cutV (st.reverse.map V.int) none (some ((st.length - n : Nat) : Int)))) hl2
        have g2 : (L2.upd H6 l2 (.lst (cutV (st.reverse.map V.int) none (some ((st.length - n : Nat) : Int))))) l2 = some (.lst ((st.drop n).reverse.map V.int)) := by rw [upd_same, cut_to, rev_take nl]
        generalize (L2.upd H6 l2 (.lst (cutV (st.reverse.map V.int) none (some ((st.length - n : Nat) : Int))))) = H7 at s7 g2
        have sH7 : Same H H7 := (s2.trans s34).trans (s46.trans s7)
        have fl2 : H l2 = none := free_of ((s2.trans s34).trans s46) hl2
        have nlw : l2 ≠ wl := (ne_of_none hw6 hl2).symm
        have hw7 := s7 _ _ hw6
        have hrl7 := s7 _ _ hrl6
        have hc7 := s7 _ _ hc
        have lrd : (kvsOf rows 0).length < sizeLine := szLt (by rw [kvs_len]; omega)
        have nlr : l2 ≠ rl := ne_of g2 hrl7 (by intro q; cases q)
        have nrw : rl ≠ wl := ne_of hrl7 hw7 (by intro q; cases q)
        have nrc : rl ≠ c := ne_of hrl7 hc7 (by intro q; cases q)
        have frl : H rl = none := frl
        refine ⟨fun σ' H' => σ' = [some (.str z), some (.ref wl), some (.ref rl), some (.ref l2), some (.int (r : Nat)), some (.ref hp), some (.int (n : Nat)), some (.ref p1), some (.ref c)] ∧ Same H H' ∧ H' wl = some (.lst (ws.map V.str)) ∧ H' rl = some (.dT (kvsOf (rowsR rows key) 0)) ∧ H' l2 = some (.lst ((st.drop n).reverse.map V.int)) ∧ H' c = some (.tup (key.map kV)), ?_, ?_⟩
        · refine ⟨_, rfl, _, rfl, rl, _, rfl, DGet.t hrl7 hc7, _, rfl, ?_⟩
          rw [kvs_val]
          cases hi : posK rows 0 key with
          | some i =>
            have er : rowsR rows key = rows := by
              unfold rowsR
              rw [hi]
            rw [er]
            exact iteF ⟨rfl, sH7, hw7, hrl7, g2, hc7⟩
          | none =>
            have er : rowsR rows key = rows ++ [key] := by
              unfold rowsR
              rw [hi]
            rw [er]
            refine iteT ⟨_, rfl, rl, _, rfl, hrl7, _, rfl, _, rfl, rl, _, rfl, DPut.t hrl7 hc7 lrd, rfl, smut sH7 frl, ?_, ?_, ?_, ?_⟩
            · rw [upd_ne nrw.symm]
              exact hw7
            · rw [upd_same, kvs_len, kvs_put hi]
            · rw [upd_ne nlr]
              exact g2
            · rw [upd_ne nrc.symm]
              exact hc7
        rintro σ H8 ⟨rfl, sH8, hw8, hrl8, hl8, hc8⟩
        refine ⟨_, rfl, .inl ⟨rfl, _, SqL.of hl8⟩, _, rfl, _, rfl, rl, .int (numR rows key), rfl, ?_, ?_⟩
        · have g := DGet.t hrl8 hc8
          rw [kvs_val, pos_rows] at g
          exact g
        refine ⟨l2, _, _, rfl, rfl, hl8, szLt (by rw [List.length_map, List.length_reverse, List.length_drop]; omega), ?_⟩
        refine ⟨_, rfl, _, _, rfl, rfl, r, by omega, l2, rowsR rows key, numR rows key :: st.drop n, _, _, _, _, _, rfl, Int.sub_add_cancel _ _, smut sH8 fl2, ?_, ?_, ?_, e, ?_, ?_, fl2, nlw⟩
        · rw [upd_ne nlw.symm]
          exact hw8
        · rw [upd_ne nlr.symm]
          exact hrl8
        · rw [upd_same, List.reverse_cons, List.map_append]
          rfl
        · have : (rowsR rows key).length ≤ rows.length + 1 := by
            unfold rowsR
            split
            · omega
            · rw [List.length_append]
              exact Nat.le_refl _
          omega
        · rw [List.length_cons, List.length_drop]
          omega
end

/-! ### a list whose first thing puts a token out -/
namespace RPL
open PySem PySem.Spec PyProof.Rows L2
theorem pa_cons1 {X : Cx} {a : Expr} {op : Operator} {r : R2} {c : Str} {j : Nat} {cp p : Pos} {es : List Expr} {ta : TE} {t : TA} (ho : OpR X (binaryOp op) r) (ha : PE X a ta) (hr : PAT X es t)
    (hs : starEach ((.BinOp a op (.Constant (.str c) j cp) p) :: es) X.env = (false, eval (.BinOp a op (.Constant (.str c) j cp) p) X.env) :: starEach es X.env := by rfl) : L2.PA X (.BinOp a op (.Constant (.str c) j cp) p :: es) (tCons (tOp r ta (tC (.str c))) t) := by
  refine ⟨fun pos pins s σ H Q I h => ?_⟩
  rw [hs]
  show wpAny _ _ (spliced ((false, eval (.BinOp a op (.Constant (.str c) j cp) p) X.env) :: backTo pos (starEach es X.env))) _ _ s
  refine Calls.spliced_cons (wpAny_BinOp (L2.thn (ha.run pins s σ H _ I h) fun v s1 ⟨x, H1, I1, r1, q1⟩ => Calls.Constant_str ?_))
  refine wpAny_mono (PySem.wpAny_toks (ho pins { s1 with toks := s1.toks + 1 } σ H1 x (.str c) v (.str c s1.toks) _ (I1.tok _) r1 ⟨_, rfl⟩ q1)) (fun u s2 q => ?_) fun _ _ z => z.2
  obtain ⟨hk, y, H2, I2, r2, q2⟩ := q
  have hk : s1.toks + 1 ≤ s2.toks := hk
  exact L2.thn (hr pos pins s2 σ H2 _ (by omega) I2 q2) fun us s3 ⟨xs, H3, I3, r3, q3⟩ => ⟨y :: xs, H3, I3, .cons r2 r3, q3⟩
theorem un65 {k : Nat} {A : Around} (r : Room k A) : A.units + 65 < cLine := by
  have := r.un
  omega
def rInT (K : PySem.W.Frag) : R2 := fun x y H Q => ∃ d ds, Dp K H x d ∧ Dp K H y (.tuple ds) ∧ SeqAt.shaped d = true ∧ SeqAt.shaped (.tuple ds) = true ∧ Q (.bl (ds.any fun z => PyData.eqv z d)) H
theorem op_inT {X : Cx} (hu : X.A.units + 65 < cLine) : OpR X (compareOp .In) (rInT X.K) := by
  intro pins s σ H x y v u Q I rx ry h
  obtain ⟨d, ds, hd, he, sd, se, q⟩ := h
  obtain ⟨as, r1⟩ := Dp.reads I d x v hd rx
  obtain ⟨bs, r2⟩ := Dp.reads I (.tuple ds) y u he ry
  exact SeqAt.in_tuple_reads r2 r1 (SeqAt.canLay_of_shaped se) (SeqAt.canLay_of_shaped sd) (room_in_shaped sd hu) ⟨.bl _, H, I, rfl, q⟩
theorem op_mulS {X : Cx} : OpR X (binaryOp .Mult) (fun x y H Q => ∃ (i : Str) (k : Int), x = .str i ∧ y = .int k ∧ i.length ≤ 16 ∧ 0 ≤ k ∧ k ≤ 1048576 ∧ ∀ z : Str, (z.length : Int) = (i.length : Int) * k → Q (.str z) H) := by
  intro pins s σ H x y v u Q I rx ry h
  obtain ⟨i, k, rfl, rfl, h1, h2, h3, q⟩ := h
  obtain ⟨t, rfl⟩ := rx
  obtain ⟨t', rfl⟩ := ry
  exact PySem.W.KXi.mul rfl h1 (by omega) h3 fun tt tk _ e => ⟨.str (Txt.mul i k), H, I.tok _, ⟨tt, rfl⟩, q _ (e h2)⟩
end RPL

/-! ### _law_same on rows that were read -/
abbrev s_law_same : Stmt := topS 31
theorem sc_law_same : FnScope ["_law_found", "_law_due", "_law_k"] ["_law_found", "_law_due"] (defScope s_law_same) := ⟨rfl, rfl, rfl, by decide +kernel, rfl, by decide +kernel, by decide +kernel⟩
section
variable {P : Program} {w : World} {K : PySem.W.Frag} {mg : Str → Option Value} {base : Heap}
def spSL : Sp := fun vs H Q _ => ∃ k : L2.Key, vs = [kV k, kV k] ∧ Q (.bl true) H
def spSR (K : PySem.W.Frag) : Sp := fun vs H Q _ => ∃ (a b : Addr) (k : Ky), vs = [.ref a, .ref b] ∧ SqT K H a (k.map kV) ∧ SqT K H b (k.map kV) ∧ k.length ≤ 90000 ∧ Q (.bl true) H
def spSW (K : PySem.W.Frag) : Sp := fun vs H Q _ => ((vs = [.non, .non]) ∨ (∃ z, vs = [.str z, .str z]) ∨ ∃ (a b : Addr) (rows : List Ky), vs = [.ref a, .ref b] ∧ RowsAt K H a rows ∧ RowsAt K H b rows ∧ rows.length ≤ 90000 ∧ ∀ k ∈ rows, k.length ≤ 90000) ∧ Q (.bl true) H
theorem ok_sameL {f : Addr} {fd : FuncData} (F : Fun K "_law_same" "_law_same" s_law_same f fd) (T : Bi mg) (g : mg "_law_same" = some (.ref f)) (kp : PySem.W.keepIn K (.ref f) = true) (b : Binds K fd ["_law_found", "_law_due"] []) : FnOk P w K mg base CX0 2 f fd ["_law_found", "_law_due"] spSL := by
  have c_law_same : Cal P w K mg base 1 "_law_same" ["_law_found", "_law_due"] (fun _ _ _ _ => False) := ⟨f, fd, ⟨fun _ _ _ _ h => h.elim, fun _ _ _ _ _ _ _ _ _ _ _ _ _ h => h.elim⟩, g, kp, b⟩
  refine F.ok sc_law_same (fun vs H Q E h => ?_) (fun cdv A outer s H vs Q E hr h => ?_)
  · obtain ⟨v, rfl, _⟩ := h
    rfl
  · obtain ⟨k, rfl, q⟩ := h
    refine ⟨_, (pss_cons (ps_if (pt_val (pe_callB call_isi (by rfl) T.isinstance (by decide +kernel) (pa_cons (pv 1) (pa_cons (pe_bltn (v := .ty "tuple") (u := .type "tuple") (by rfl) T.tuple (by decide +kernel) rfl) pa_nil))))
        (pss_cons (ps_if (PW.pt (pw_or (pt_not (pt_val (pe_callB call_isi (by rfl) T.isinstance (by decide +kernel) (pa_cons (pv 0) (pa_cons (pe_bltn (v := .ty "tuple") (u := .type "tuple") (by rfl) T.tuple (by decide +kernel) rfl) pa_nil))))) (pw_or1 (pt_cmpR op_ne (pe_callB call_len_seq (by rfl) T.len PySem.boot_len (pa_cons (pv 0) pa_nil)) (pe_callB call_len_seq (by rfl) T.len PySem.boot_len (pa_cons (pv 1) pa_nil)) (nomark _)))))
          (pss_one (ps_ret pe_bl))
          pss_nil)
        (pss_cons (ps_for PassesOwn.never rfl (pi_range1 (by rfl) T.range (pa_cons (pe_callB call_len_seq (by rfl) T.len PySem.boot_len (pa_cons (pv 1) pa_nil)) pa_nil)) (pg_name (i := 2) sc_law_same.nd rfl (.inl rfl))
          (pss_one (ps_if (pt_not (pt_val (pe_call c_law_same.G hr (by rfl) c_law_same.g c_law_same.kp c_law_same.b .nil pass0 (pa_cons (pe_ix ix_tup (pv 0) (pv 2) (fun _ _ => rfl)) (pa_cons (pe_ix ix_tup (pv 1) (pv 2) (fun _ _ => rfl)) pa_nil)))))
            (pss_one (ps_ret pe_bl))
            pss_nil)))
        (pss_one (ps_ret pe_bl))))
        pss_nil)
      (pss_cons (ps_if (pt_val (pe_callB call_isi (by rfl) T.isinstance (by decide +kernel) (pa_cons (pv 1) (pa_cons (pe_bltn (v := .ty "bool") (u := .type "bool") (by rfl) T.bool (by decide +kernel) rfl) pa_nil))))
        (pss_one (ps_ret (pe_and (pe_callB call_isi (by rfl) T.isinstance (by decide +kernel) (pa_cons (pv 0) (pa_cons (pe_bltn (v := .ty "bool") (u := .type "bool") (by rfl) T.bool (by decide +kernel) rfl) pa_nil))) (pe_one (pe_cmpR op_eq (pv 0) (pv 1) (nomark _))))))
        pss_nil)
      (pss_cons (ps_if (pt_val (pe_callB call_isi (by rfl) T.isinstance (by decide +kernel) (pa_cons (pv 1) (pa_cons (pe_bltn (v := .ty "int") (u := .type "int") (by rfl) T.int (by decide +kernel) rfl) pa_nil))))
        (pss_one (ps_ret (pe_and (pe_callB call_isi (by rfl) T.isinstance (by decide +kernel) (pa_cons (pv 0) (pa_cons (pe_bltn (v := .ty "int") (u := .type "int") (by rfl) T.int (by decide +kernel) rfl) pa_nil))) (pe_and (pe_not (pe_callB call_isi (by rfl) T.isinstance (by decide +kernel) (pa_cons (pv 0) (pa_cons (pe_bltn (v := .ty "bool") (u := .type "bool") (by rfl) T.bool (by decide +kernel) rfl) pa_nil)))) (pe_one (pe_cmpR op_eq (pv 0) (pv 1) (nomark _)))))))
        pss_nil)
      (pss_cons (ps_if (pt_val (pe_callB call_isi (by rfl) T.isinstance (by decide +kernel) (pa_cons (pv 1) (pa_cons (pe_bltn (v := .ty "str") (u := .type "str") (by rfl) T.str (by decide +kernel) rfl) pa_nil))))
        (pss_one (ps_ret (pe_and (pe_callB call_isi (by rfl) T.isinstance (by decide +kernel) (pa_cons (pv 0) (pa_cons (pe_bltn (v := .ty "str") (u := .type "str") (by rfl) T.str (by decide +kernel) rfl) pa_nil))) (pe_one (pe_cmpR op_eq (pv 0) (pv 1) (nomark _))))))
        pss_nil)
      (pss_one (ps_ret (pe_and (pe_cmpR op_isN (pv 1) pe_non (nomark _)) (pe_one (pe_cmpR op_isN (pv 0) pe_non (nomark _)))))))))), ?_⟩
    rcases k with n | z
    · refine ⟨_, rfl, _, _, _, _, false, rfl, .ty "tuple", .base (.int _), kit_ty (by decide +kernel), false, rfl, iteF ?_⟩
      refine ⟨_, rfl, _, _, _, _, false, rfl, .ty "bool", .base (.int _), kit_ty (by decide +kernel), false, rfl, iteF ?_⟩
      refine ⟨_, rfl, _, _, _, _, true, rfl, .ty "int", .base (.int _), kit_ty (by decide +kernel), true, rfl, iteT ?_⟩
      refine ⟨_, rfl, _, _, _, _, true, rfl, .ty "int", .base (.int _), kit_ty (by decide +kernel), true, rfl, iteT ?_⟩
      refine ⟨_, rfl, _, _, _, _, false, rfl, .ty "bool", .base (.int _), kit_ty (by decide +kernel), false, rfl, true, rfl, iteT ⟨_, rfl, _, rfl, rfl, ?_⟩⟩
      rw [decide_eq_true rfl]
      exact q
    · refine ⟨_, rfl, _, _, _, _, false, rfl, .ty "tuple", .base (.str _), kit_ty (by decide +kernel), false, rfl, iteF ?_⟩
      refine ⟨_, rfl, _, _, _, _, false, rfl, .ty "bool", .base (.str _), kit_ty (by decide +kernel), false, rfl, iteF ?_⟩
      refine ⟨_, rfl, _, _, _, _, false, rfl, .ty "int", .base (.str _), kit_ty (by decide +kernel), false, rfl, iteF ?_⟩
      refine ⟨_, rfl, _, _, _, _, true, rfl, .ty "str", .base (.str _), kit_ty (by decide +kernel), true, rfl, iteT ?_⟩
      refine ⟨_, rfl, _, _, _, _, true, rfl, .ty "str", .base (.str _), kit_ty (by decide +kernel), true, rfl, iteT ⟨_, rfl, _, rfl, rfl, ?_⟩⟩
      rw [decide_eq_true rfl]
      exact q
theorem ok_sameR {f : Addr} {fd : FuncData} (F : Fun K "_law_same" "_law_same" s_law_same f fd) (T : Bi mg) (c_law_same : Cal P w K mg base 2 "_law_same" ["_law_found", "_law_due"] spSL) : FnOk P w K mg base CX0 3 f fd ["_law_found", "_law_due"] (spSR K) := by
  refine F.ok sc_law_same (fun vs H Q E h => ?_) (fun cdv A outer s H vs Q E hr h => ?_)
  · obtain ⟨a, b, k, rfl, _⟩ := h
    rfl
  · obtain ⟨a, b, k, rfl, ha, hb, lk, q⟩ := h
    refine ⟨_, (pss_cons (ps_if (pt_val (pe_callB call_isi (by rfl) T.isinstance (by decide +kernel) (pa_cons (pv 1) (pa_cons (pe_bltn (v := .ty "tuple") (u := .type "tuple") (by rfl) T.tuple (by decide +kernel) rfl) pa_nil))))
        (pss_cons (ps_if (PW.pt (pw_or (pt_not (pt_val (pe_callB call_isi (by rfl) T.isinstance (by decide +kernel) (pa_cons (pv 0) (pa_cons (pe_bltn (v := .ty "tuple") (u := .type "tuple") (by rfl) T.tuple (by decide +kernel) rfl) pa_nil))))) (pw_or1 (pt_cmpR op_ne (pe_callB call_len_seq (by rfl) T.len PySem.boot_len (pa_cons (pv 0) pa_nil)) (pe_callB call_len_seq (by rfl) T.len PySem.boot_len (pa_cons (pv 1) pa_nil)) (nomark _)))))
          (pss_one (ps_ret pe_bl))
          pss_nil)
        (pss_cons (ps_for PassesOwn.never rfl (pi_range1 (by rfl) T.range (pa_cons (pe_callB call_len_seq (by rfl) T.len PySem.boot_len (pa_cons (pv 1) pa_nil)) pa_nil)) (pg_name (i := 2) sc_law_same.nd rfl (.inl rfl))
          (pss_one (ps_if (pt_not (pt_val (pe_call c_law_same.G hr (by rfl) c_law_same.g c_law_same.kp c_law_same.b .nil pass0 (pa_cons (pe_ix ix_tup (pv 0) (pv 2) (fun _ _ => rfl)) (pa_cons (pe_ix ix_tup (pv 1) (pv 2) (fun _ _ => rfl)) pa_nil)))))
            (pss_one (ps_ret pe_bl))
            pss_nil)))
        (pss_one (ps_ret pe_bl))))
        pss_nil)
      (pss_cons (ps_if (pt_val (pe_callB call_isi (by rfl) T.isinstance (by decide +kernel) (pa_cons (pv 1) (pa_cons (pe_bltn (v := .ty "bool") (u := .type "bool") (by rfl) T.bool (by decide +kernel) rfl) pa_nil))))
        (pss_one (ps_ret (pe_and (pe_callB call_isi (by rfl) T.isinstance (by decide +kernel) (pa_cons (pv 0) (pa_cons (pe_bltn (v := .ty "bool") (u := .type "bool") (by rfl) T.bool (by decide +kernel) rfl) pa_nil))) (pe_one (pe_cmpR op_eq (pv 0) (pv 1) (nomark _))))))
        pss_nil)
      (pss_cons (ps_if (pt_val (pe_callB call_isi (by rfl) T.isinstance (by decide +kernel) (pa_cons (pv 1) (pa_cons (pe_bltn (v := .ty "int") (u := .type "int") (by rfl) T.int (by decide +kernel) rfl) pa_nil))))
        (pss_one (ps_ret (pe_and (pe_callB call_isi (by rfl) T.isinstance (by decide +kernel) (pa_cons (pv 0) (pa_cons (pe_bltn (v := .ty "int") (u := .type "int") (by rfl) T.int (by decide +kernel) rfl) pa_nil))) (pe_and (pe_not (pe_callB call_isi (by rfl) T.isinstance (by decide +kernel) (pa_cons (pv 0) (pa_cons (pe_bltn (v := .ty "bool") (u := .type "bool") (by rfl) T.bool (by decide +kernel) rfl) pa_nil)))) (pe_one (pe_cmpR op_eq (pv 0) (pv 1) (nomark _)))))))
        pss_nil)
      (pss_cons (ps_if (pt_val (pe_callB call_isi (by rfl) T.isinstance (by decide +kernel) (pa_cons (pv 1) (pa_cons (pe_bltn (v := .ty "str") (u := .type "str") (by rfl) T.str (by decide +kernel) rfl) pa_nil))))
        (pss_one (ps_ret (pe_and (pe_callB call_isi (by rfl) T.isinstance (by decide +kernel) (pa_cons (pv 0) (pa_cons (pe_bltn (v := .ty "str") (u := .type "str") (by rfl) T.str (by decide +kernel) rfl) pa_nil))) (pe_one (pe_cmpR op_eq (pv 0) (pv 1) (nomark _))))))
        pss_nil)
      (pss_one (ps_ret (pe_and (pe_cmpR op_isN (pv 1) pe_non (nomark _)) (pe_one (pe_cmpR op_isN (pv 0) pe_non (nomark _)))))))))), ?_⟩
    refine ⟨_, rfl, _, _, _, _, true, rfl, .ty "tuple", ty_sqt hb, kit_ty (by decide +kernel), true, rfl, iteT ?_⟩
    refine ⟨_, rfl, _, _, _, _, true, rfl, .ty "tuple", ty_sqt ha, kit_ty (by decide +kernel), true, rfl, iteF ⟨_, rfl, a, _, rfl, .inr ha, _, rfl, b, _, rfl, .inr hb, rfl, _, rfl, ?_⟩⟩
    rw [decide_eq_true rfl]
    refine iteF ⟨_, rfl, b, _, rfl, .inr hb, _, rfl, by omega, by rw [List.length_map]; omega, for_range (lo := 0) (n := (((k.map kV).length : Nat) : Int).toNat) (fun i σ H' => ∃ y, σ = [some (.ref a), some (.ref b), y] ∧ H' = H) ⟨none, rfl, rfl⟩ ?_ ?_⟩
    · rintro i σ H' hi ⟨y, rfl, rfl⟩
      have hi : i < k.length := by
        have : i < (k.map kV).length := hi
        rw [List.length_map] at this
        exact this
      have e : (k.map kV)[i]? = some (kV k[i]) := get_map (List.getElem?_eq_getElem hi)
      refine ⟨_, rfl, _, rfl, a, _, _, _, rfl, rfl, ha, by rw [Int.zero_add]; exact atI_nat e, _, rfl, _, rfl, b, _, _, _, rfl, rfl, hb, by rw [Int.zero_add]; exact atI_nat e, k[i], rfl, true, rfl, iteF ⟨_, rfl, rfl⟩⟩
    · rintro σ H' ⟨y, rfl, rfl⟩
      exact q
theorem ok_sameW {f : Addr} {fd : FuncData} (F : Fun K "_law_same" "_law_same" s_law_same f fd) (T : Bi mg) (c_law_same : Cal P w K mg base 3 "_law_same" ["_law_found", "_law_due"] (spSR K)) : FnOk P w K mg base CX0 4 f fd ["_law_found", "_law_due"] (spSW K) := by
  refine F.ok sc_law_same (fun vs H Q E h => ?_) (fun cdv A outer s H vs Q E hr h => ?_)
  · obtain ⟨h, _⟩ := h
    rcases h with rfl | ⟨z, rfl⟩ | ⟨a, b, rows, rfl, _⟩ <;> rfl
  · obtain ⟨h, q⟩ := h
    refine ⟨_, (pss_cons (ps_if (pt_val (pe_callB call_isi (by rfl) T.isinstance (by decide +kernel) (pa_cons (pv 1) (pa_cons (pe_bltn (v := .ty "tuple") (u := .type "tuple") (by rfl) T.tuple (by decide +kernel) rfl) pa_nil))))
        (pss_cons (ps_if (PW.pt (pw_or (pt_not (pt_val (pe_callB call_isi (by rfl) T.isinstance (by decide +kernel) (pa_cons (pv 0) (pa_cons (pe_bltn (v := .ty "tuple") (u := .type "tuple") (by rfl) T.tuple (by decide +kernel) rfl) pa_nil))))) (pw_or1 (pt_cmpR op_ne (pe_callB call_len_seq (by rfl) T.len PySem.boot_len (pa_cons (pv 0) pa_nil)) (pe_callB call_len_seq (by rfl) T.len PySem.boot_len (pa_cons (pv 1) pa_nil)) (nomark _)))))
          (pss_one (ps_ret pe_bl))
          pss_nil)
        (pss_cons (ps_for PassesOwn.never rfl (pi_range1 (by rfl) T.range (pa_cons (pe_callB call_len_seq (by rfl) T.len PySem.boot_len (pa_cons (pv 1) pa_nil)) pa_nil)) (pg_name (i := 2) sc_law_same.nd rfl (.inl rfl))
          (pss_one (ps_if (pt_not (pt_val (pe_call c_law_same.G hr (by rfl) c_law_same.g c_law_same.kp c_law_same.b .nil pass0 (pa_cons (pe_ix ix_tup (pv 0) (pv 2) (fun _ _ => rfl)) (pa_cons (pe_ix ix_tup (pv 1) (pv 2) (fun _ _ => rfl)) pa_nil)))))
            (pss_one (ps_ret pe_bl))
            pss_nil)))
        (pss_one (ps_ret pe_bl))))
        pss_nil)
      (pss_cons (ps_if (pt_val (pe_callB call_isi (by rfl) T.isinstance (by decide +kernel) (pa_cons (pv 1) (pa_cons (pe_bltn (v := .ty "bool") (u := .type "bool") (by rfl) T.bool (by decide +kernel) rfl) pa_nil))))
        (pss_one (ps_ret (pe_and (pe_callB call_isi (by rfl) T.isinstance (by decide +kernel) (pa_cons (pv 0) (pa_cons (pe_bltn (v := .ty "bool") (u := .type "bool") (by rfl) T.bool (by decide +kernel) rfl) pa_nil))) (pe_one (pe_cmpR op_eq (pv 0) (pv 1) (nomark _))))))
        pss_nil)
      (pss_cons (ps_if (pt_val (pe_callB call_isi (by rfl) T.isinstance (by decide +kernel) (pa_cons (pv 1) (pa_cons (pe_bltn (v := .ty "int") (u := .type "int") (by rfl) T.int (by decide +kernel) rfl) pa_nil))))
        (pss_one (ps_ret (pe_and (pe_callB call_isi (by rfl) T.isinstance (by decide +kernel) (pa_cons (pv 0) (pa_cons (pe_bltn (v := .ty "int") (u := .type "int") (by rfl) T.int (by decide +kernel) rfl) pa_nil))) (pe_and (pe_not (pe_callB call_isi (by rfl) T.isinstance (by decide +kernel) (pa_cons (pv 0) (pa_cons (pe_bltn (v := .ty "bool") (u := .type "bool") (by rfl) T.bool (by decide +kernel) rfl) pa_nil)))) (pe_one (pe_cmpR op_eq (pv 0) (pv 1) (nomark _)))))))
        pss_nil)
      (pss_cons (ps_if (pt_val (pe_callB call_isi (by rfl) T.isinstance (by decide +kernel) (pa_cons (pv 1) (pa_cons (pe_bltn (v := .ty "str") (u := .type "str") (by rfl) T.str (by decide +kernel) rfl) pa_nil))))
        (pss_one (ps_ret (pe_and (pe_callB call_isi (by rfl) T.isinstance (by decide +kernel) (pa_cons (pv 0) (pa_cons (pe_bltn (v := .ty "str") (u := .type "str") (by rfl) T.str (by decide +kernel) rfl) pa_nil))) (pe_one (pe_cmpR op_eq (pv 0) (pv 1) (nomark _))))))
        pss_nil)
      (pss_one (ps_ret (pe_and (pe_cmpR op_isN (pv 1) pe_non (nomark _)) (pe_one (pe_cmpR op_isN (pv 0) pe_non (nomark _)))))))))), ?_⟩
    rcases h with rfl | ⟨z, rfl⟩ | ⟨a, b, rows, rfl, ha, hb, lr, lk⟩
    · refine ⟨_, rfl, _, _, _, _, false, rfl, .ty "tuple", .base .non, kit_ty (by decide +kernel), false, rfl, iteF ?_⟩
      refine ⟨_, rfl, _, _, _, _, false, rfl, .ty "bool", .base .non, kit_ty (by decide +kernel), false, rfl, iteF ?_⟩
      refine ⟨_, rfl, _, _, _, _, false, rfl, .ty "int", .base .non, kit_ty (by decide +kernel), false, rfl, iteF ?_⟩
      refine ⟨_, rfl, _, _, _, _, false, rfl, .ty "str", .base .non, kit_ty (by decide +kernel), false, rfl, iteF ?_⟩
      refine ⟨_, rfl, rfl, _, rfl, iteT ⟨_, rfl, rfl, ?_⟩⟩
      exact q
    · refine ⟨_, rfl, _, _, _, _, false, rfl, .ty "tuple", .base (.str _), kit_ty (by decide +kernel), false, rfl, iteF ?_⟩
      refine ⟨_, rfl, _, _, _, _, false, rfl, .ty "bool", .base (.str _), kit_ty (by decide +kernel), false, rfl, iteF ?_⟩
      refine ⟨_, rfl, _, _, _, _, false, rfl, .ty "int", .base (.str _), kit_ty (by decide +kernel), false, rfl, iteF ?_⟩
      refine ⟨_, rfl, _, _, _, _, true, rfl, .ty "str", .base (.str _), kit_ty (by decide +kernel), true, rfl, iteT ?_⟩
      refine ⟨_, rfl, _, _, _, _, true, rfl, .ty "str", .base (.str _), kit_ty (by decide +kernel), true, rfl, iteT ⟨_, rfl, _, rfl, rfl, ?_⟩⟩
      rw [decide_eq_true rfl]
      exact q
    · obtain ⟨as, ha1, ha2⟩ := ha.ex
      obtain ⟨bs, hb1, hb2⟩ := hb.ex
      have la := ha2.len
      have lb := hb2.len
      refine ⟨_, rfl, _, _, _, _, true, rfl, .ty "tuple", ty_sqt hb1, kit_ty (by decide +kernel), true, rfl, iteT ?_⟩
      refine ⟨_, rfl, _, _, _, _, true, rfl, .ty "tuple", ty_sqt ha1, kit_ty (by decide +kernel), true, rfl, iteF ⟨_, rfl, a, _, rfl, .inr ha1, _, rfl, b, _, rfl, .inr hb1, rfl, _, rfl, ?_⟩⟩
      rw [List.length_map, List.length_map, la, lb, decide_eq_true rfl]
      refine iteF ⟨_, rfl, b, _, rfl, .inr hb1, _, rfl, by omega, by rw [List.length_map]; omega, for_range (lo := 0) (n := (((bs.map V.ref).length : Nat) : Int).toNat) (fun i σ H' => ∃ y, σ = [some (.ref a), some (.ref b), y] ∧ H' = H) ⟨none, rfl, rfl⟩ ?_ ?_⟩
      · rintro i σ H' hi ⟨y, rfl, rfl⟩
        have hi : i < rows.length := by
          have : i < (bs.map V.ref).length := hi
          rw [List.length_map, lb] at this
          exact this
        have hk : rows[i]? = some rows[i] := List.getElem?_eq_getElem hi
        have lki := lk _ (List.mem_of_getElem? hk)
        obtain ⟨a1, ea, xa⟩ := ha2.getx hk
        obtain ⟨b1, eb, xb⟩ := hb2.getx hk
        refine ⟨_, rfl, _, rfl, a, _, _, _, rfl, rfl, ha1, by rw [Int.zero_add]; exact atI_nat (get_map ea), _, rfl, _, rfl, b, _, _, _, rfl, rfl, hb1, by rw [Int.zero_add]; exact atI_nat (get_map eb), a1, b1, rows[i], rfl, xa, xb, lki, true, rfl, iteF ⟨_, rfl, rfl⟩⟩
      · rintro σ H' ⟨y, rfl, rfl⟩
        exact q
theorem ok_sameA {f : Addr} {fd : FuncData} (F : Fun K "_law_same" "_law_same" s_law_same f fd) (T : Bi mg) (g : mg "_law_same" = some (.ref f)) (kp : PySem.W.keepIn K (.ref f) = true) (b : Binds K fd ["_law_found", "_law_due"] []) : FnOk P w K mg base CX0 4 f fd ["_law_found", "_law_due"] (spSW K) :=
  ok_sameW F T ⟨f, fd, ok_sameR F T ⟨f, fd, ok_sameL F T g kp b, g, kp, b⟩, g, kp, b⟩
end

/-! ### fairtrees.notes.text_of -/
abbrev shead_of : Stmt := topS 13
theorem schead_of : FnScope ["row"] ["row"] (defScope shead_of) := ⟨rfl, rfl, rfl, by decide +kernel, rfl, by decide +kernel, by decide +kernel⟩
abbrev snumbers_of : Stmt := topS 14
theorem scnumbers_of : FnScope ["row"] ["row"] (defScope snumbers_of) := ⟨rfl, rfl, rfl, by decide +kernel, rfl, by decide +kernel, by decide +kernel⟩
abbrev swords_in : Stmt := topS 17
theorem scwords_in : FnScope ["saying", "found", "row", "one"] ["saying"] (defScope swords_in) := ⟨rfl, rfl, rfl, by decide +kernel, rfl, by decide +kernel, by decide +kernel⟩
abbrev stext_of : Stmt := topS 18
theorem sctext_of : FnScope ["saying", "words", "waiting", "row"] ["saying"] (defScope stext_of) := ⟨rfl, rfl, rfl, by decide +kernel, rfl, by decide +kernel, by decide +kernel⟩
structure Wh (K : PySem.W.Frag) (mg : Str → Option Value) where
  aH : Addr
  gWHOSE : mg "WHOSE" = some (.ref aH)
  rWHOSE : RelV (.ref aH) (.ref aH)
  sH : ∀ H, SqT K H aH (whoseL.map V.str)
section
variable {P : Program} {w : World} {K : PySem.W.Frag} {mg : Str → Option Value} {base : Heap}
def spHead (K : PySem.W.Frag) : Sp := fun vs H Q _ => ∃ (t : Addr) (r : Row) (k : Nat), vs = [.ref t] ∧ SqT K H t r.enc ∧ GoodRow k r ∧ ∀ H' p, Same H H' → SqT K H' p (r.words.map V.str) → Q (.ref p) H'
theorem ok_head {f : Addr} {fd : FuncData} (F : Fun K "head_of" "head_of" shead_of f fd) (W : Wh K mg) : FnOk P w K mg base CX0 1 f fd ["row"] (spHead K) := by
  refine F.ok schead_of (fun vs H Q E h => ?_) (fun cdv A outer s H vs Q E hr h => ?_)
  · obtain ⟨t, r, k, rfl, _⟩ := h
    rfl
  · obtain ⟨t, r, k, rfl, ht, g, q⟩ := h
    refine ⟨_, (pss_cons (ps_if (pt_cmpR op_eq (pe_ix ix_tup (pv 0) pe_int (fun _ _ => rfl)) pe_str (nomark _))
        (pss_one (ps_ret (pe_tup (pa_cons (pe_ix ix_tup (pv 0) pe_int (fun _ _ => rfl)) pa_nil))))
        pss_nil)
      (pss_cons (ps_if (pt_cmpR op_in_seq (pe_ix ix_tup (pv 0) pe_int (fun _ _ => rfl)) (pe_glob rfl W.gWHOSE W.rWHOSE) (by rfl))
        (pss_one (ps_ret (pe_tup (pa_cons (pe_ix ix_tup (pv 0) pe_int (fun _ _ => rfl)) (pa_cons (pe_ix ix_tup (pv 0) pe_int (fun _ _ => rfl)) pa_nil)))))
        pss_nil)
      (pss_one (ps_ret (pe_tup (pa_cons (pe_ix ix_tup (pv 0) pe_int (fun _ _ => rfl)) pa_nil)))))), ?_⟩
    rcases r with z | ⟨x, ns⟩ | ⟨x, fm, ns⟩
    · refine ⟨_, rfl, t, _, 0, .str "mark", rfl, rfl, ht, at_of (j := 0) rfl rfl, rfl, _, rfl, ?_⟩
      rw [dec_str, decide_eq_true rfl]
      refine iteT ⟨_, rfl, t, _, 1, .str z, rfl, rfl, ht, at_of (j := 1) rfl rfl, by show 1 ≤ sizeLine; decide, fun p hp => ?_⟩
      exact q _ p (same_upd hp) (SqT.of upd_same)
    · obtain ⟨n1, n2⟩ := parts_no g.1
      refine ⟨_, rfl, t, _, 0, .str x, rfl, rfl, ht, at_of (j := 0) rfl rfl, rfl, _, rfl, ?_⟩
      rw [dec_str, decide_eq_false n1]
      refine iteF ⟨_, rfl, t, _, 0, .str x, rfl, rfl, ht, at_of (j := 0) rfl rfl, _, _, rfl, .inr (W.sH _), rfl, flat_str _, _, rfl, ?_⟩
      rw [inV_str, decide_eq_false n2]
      refine iteF ⟨_, rfl, t, _, 0, .str x, rfl, rfl, ht, at_of (j := 0) rfl rfl, by show 1 ≤ sizeLine; decide, fun p hp => ?_⟩
      exact q _ p (same_upd hp) (SqT.of upd_same)
    · have n1 := whose_no g.1
      refine ⟨_, rfl, t, _, 0, .str x, rfl, rfl, ht, at_of (j := 0) rfl rfl, rfl, _, rfl, ?_⟩
      rw [dec_str, decide_eq_false n1]
      refine iteF ⟨_, rfl, t, _, 0, .str x, rfl, rfl, ht, at_of (j := 0) rfl rfl, _, _, rfl, .inr (W.sH _), rfl, flat_str _, _, rfl, ?_⟩
      rw [inV_str, decide_eq_true g.1]
      refine iteT ⟨_, rfl, t, _, 0, .str x, rfl, rfl, ht, at_of (j := 0) rfl rfl, _, rfl, t, _, 1, .str fm, rfl, rfl, ht, at_of (j := 1) rfl rfl, by show 2 ≤ sizeLine; decide, fun p hp => ?_⟩
      exact q _ p (same_upd hp) (SqT.of upd_same)
def spNums (K : PySem.W.Frag) : Sp := fun vs H Q _ => ∃ (t : Addr) (r : Row) (k : Nat), vs = [.ref t] ∧ SqT K H t r.enc ∧ GoodRow k r ∧ ∀ H' p, Same H H' → SqT K H' p (r.nums.map V.int) → Q (.ref p) H'
theorem ok_nums {f : Addr} {fd : FuncData} (F : Fun K "numbers_of" "numbers_of" snumbers_of f fd) (W : Wh K mg) : FnOk P w K mg base CX0 1 f fd ["row"] (spNums K) := by
  refine F.ok scnumbers_of (fun vs H Q E h => ?_) (fun cdv A outer s H vs Q E hr h => ?_)
  · obtain ⟨t, r, k, rfl, _⟩ := h
    rfl
  · obtain ⟨t, r, k, rfl, ht, g, q⟩ := h
    refine ⟨_, (pss_cons (ps_if (pt_cmpR op_eq (pe_ix ix_tup (pv 0) pe_int (fun _ _ => rfl)) pe_str (nomark _))
        (pss_one (ps_ret (pe_tup pa_nil)))
        pss_nil)
      (pss_cons (ps_if (pt_cmpR op_in_seq (pe_ix ix_tup (pv 0) pe_int (fun _ _ => rfl)) (pe_glob rfl W.gWHOSE W.rWHOSE) (by rfl))
        (pss_one (ps_ret (pe_slice sl_tupA (pv 0) (po_some pe_int) po_none)))
        pss_nil)
      (pss_one (ps_ret (pe_slice sl_tupA (pv 0) (po_some pe_int) po_none))))), ?_⟩
    rcases r with z | ⟨x, ns⟩ | ⟨x, fm, ns⟩
    · refine ⟨_, rfl, t, _, 0, .str "mark", rfl, rfl, ht, at_of (j := 0) rfl rfl, rfl, _, rfl, ?_⟩
      rw [dec_str, decide_eq_true rfl]
      refine iteT ⟨by show 0 ≤ sizeLine; decide, fun p hp => ?_⟩
      exact q _ p (same_upd hp) (SqT.of upd_same)
    · obtain ⟨n1, n2⟩ := parts_no g.1
      refine ⟨_, rfl, t, _, 0, .str x, rfl, rfl, ht, at_of (j := 0) rfl rfl, rfl, _, rfl, ?_⟩
      rw [dec_str, decide_eq_false n1]
      refine iteF ⟨_, rfl, t, _, 0, .str x, rfl, rfl, ht, at_of (j := 0) rfl rfl, _, _, rfl, .inr (W.sH _), rfl, flat_str _, _, rfl, ?_⟩
      rw [inV_str, decide_eq_false n2]
      have hk : 1 ≤ (Row.word x ns).enc.length := Nat.le_add_left _ _
      refine iteF ⟨_, rfl, 1, rfl, t, _, rfl, ht, fun e => absurd e (not_whole (k := 1) hk (by decide)), fun _ p hp => ?_⟩
      refine q _ p (same_upd hp) (SqT.of ?_)
      rw [upd_same, show cutV (Row.word x ns).enc (some 1) none = (Row.word x ns).enc.drop 1 from cut_from (k := 1) hk]
      rfl
    · have n1 := whose_no g.1
      refine ⟨_, rfl, t, _, 0, .str x, rfl, rfl, ht, at_of (j := 0) rfl rfl, rfl, _, rfl, ?_⟩
      rw [dec_str, decide_eq_false n1]
      refine iteF ⟨_, rfl, t, _, 0, .str x, rfl, rfl, ht, at_of (j := 0) rfl rfl, _, _, rfl, .inr (W.sH _), rfl, flat_str _, _, rfl, ?_⟩
      rw [inV_str, decide_eq_true g.1]
      have hk : 2 ≤ (Row.run x fm ns).enc.length := Nat.le_add_left _ _
      refine iteT ⟨_, rfl, 2, rfl, t, _, rfl, ht, fun e => absurd e (not_whole (k := 2) hk (by decide)), fun _ p hp => ?_⟩
      refine q _ p (same_upd hp) (SqT.of ?_)
      rw [upd_same, show cutV (Row.run x fm ns).enc (some 2) none = (Row.run x fm ns).enc.drop 2 from cut_from (k := 2) hk]
      rfl
theorem ok_win {f : Addr} {fd : FuncData} (F : Fun K "words_in" "words_in" swords_in f fd) (T : Bi mg) (chead_of : Cal P w K mg base 1 "head_of" ["row"] (spHead K)) (cnumbers_of : Cal P w K mg base 1 "numbers_of" ["row"] (spNums K)) : FnOk P w K mg base CX0 2 f fd ["saying"] (spWin K) := by
  refine F.ok scwords_in (fun vs H Q E h => ?_) (fun cdv A outer s H vs Q E hr h => ?_)
  · obtain ⟨t, rows, rfl, _⟩ := h
    rfl
  · obtain ⟨t, rows, rfl, S, g, q⟩ := h
    obtain ⟨ra, hra, hr2⟩ := S.ex
    have hl : ra.length = rows.length := hr2.len
    have hi := g.hi
    refine ⟨_, (pss_cons (ps_set (i := 1) scwords_in.nd rfl (.inr rfl) (pe_lst pa_nil))
      (pss_cons (ps_for PassesOwn.never rfl (pi_tup (pv 0)) (pg_name (i := 2) scwords_in.nd rfl (.inl rfl))
        (pss_one (ps_expr (pe_bm PySem.F.plainAttrs_list PySem.F.slot_list_append PySem.F.type_list_append mt_append (pv 1) (pa_cons (pe_op op_add (pe_callB call_len_seq (by rfl) T.len PySem.boot_len (pa_cons (pe_call chead_of.G hr (by rfl) chead_of.g chead_of.kp chead_of.b .nil pass0 (pa_cons (pv 2) pa_nil)) pa_nil)) (pe_callB (cr_sum rfl) (by rfl) T.sum (by decide +kernel) (pa_cons (pe_lc (own := [("one", 3)]) (g := gName 3) rfl scwords_in.nd (pi_tup (pe_call cnumbers_of.G hr (by rfl) cnumbers_of.g cnumbers_of.kp cnumbers_of.b .nil pass0 (pa_cons (pv 2) pa_nil))) (blkOk_by (own := [("one", 3)]) (N := ["saying", "found", "row", "one"]) (sc := defScope swords_in) (by decide +kernel)) (fun _ _ _ _ _ => (pg_name (i := 3) scwords_in.nd rfl (.inl rfl))) (fun _ _ _ _ _ => pts_nil) (fun _ _ _ _ _ => (pe_ix (ixL K) (pv 1) (pv 3) (fun _ _ => rfl)))) pa_nil))) pa_nil)))))
      (pss_one (ps_ret (pv 1))))), ?_⟩
    refine ⟨Nat.zero_le _, fun fl hfl => ?_⟩
    refine ⟨_, rfl, t, rfl, ⟨_, ssqt (same_upd hfl) hra⟩, for_tup (K := K) (a := t) (xs := ra.map V.ref) (fun i σ H' => ∃ y, σ = [some (.ref t), some (.ref fl), y, none] ∧ Same H H' ∧ H' fl = some (.lst ((wAll (rows.take i)).map lenV))) ⟨none, rfl, same_upd hfl, upd_same⟩ (fun i σ H' _ ⟨_, _, s1, _⟩ => ssqt s1 hra) ?_ ?_⟩
    · rintro i x σ H1 hix ⟨y, rfl, s1, h1⟩
      obtain ⟨a, ha, rfl⟩ := ref_get hix
      obtain ⟨r, hr1, hr3⟩ := hr2.get ha
      have gr := g.gr i r hr1
      have il : i < rows.length := (List.getElem?_eq_some_iff.mp hr1).1
      have wl := wtake_len (rows := rows) (Nat.le_of_lt il)
      have nl := nums_le gr
      refine ⟨_, rfl, .inl ⟨rfl, _, SqL.of h1⟩, _, rfl, a, r, i, rfl, ssqt s1 hr3, gr, fun H2 p s2 hp => ⟨p, _, rfl, .inr hp, ?_⟩⟩
      refine ⟨_, rfl, a, r, i, rfl, ssqt s2 (ssqt s1 hr3), gr, fun H3 p2 s3 hp2 => ⟨p2, rfl, ⟨_, hp2⟩, fun D hD => ?_⟩⟩
      have h3 := s3 _ _ (s2 _ _ h1)
      refine lc_tupS (fun j acc => acc = ((r.nums.take j).map fun n => V.int ((wAll (rows.take i)).getD n.toNat []).length)) hp2 hD (by rw [List.length_map]; omega) rfl (fun _ => rfl) (fun j x H4 acc hj s4 p5 p4 N1 N2 n1 n2 => ?_) (fun H4 acc s4 hD4 hl p5 => ?_)
      · rw [List.getElem?_map] at hj
        obtain ⟨n, hn1, rfl⟩ := Option.map_eq_some_iff.mp hj
        obtain ⟨b1, b2⟩ := nums_in gr n (List.mem_of_getElem? hn1)
        refine ⟨_, rfl, _, rfl, fl, _, _, _, rfl, rfl, SqL.of (s4 _ _ h3), lens_at b1 (by rw [wl]; omega), ?_⟩
        refine n1 _ H4 (Same.refl _) ?_
        rw [p5, List.take_add_one, hn1, List.map_append]
        rfl
      · subst p5
        rw [List.length_map, List.take_length] at hD4
        refine ⟨D, r.nums.map (fun n => (((wAll (rows.take i)).getD n.toNat []).length : Int)), rfl, SqL.of (by rw [hD4, List.map_map]; rfl), ?_⟩
        refine ⟨_, _, rfl, rfl, ?_⟩
        have h4 := s4 _ _ h3
        refine ⟨fl, _, _, rfl, rfl, h4, szLt (by rw [List.length_map, wl]; omega), ?_⟩
        refine ⟨_, rfl, smut (((s1.trans s2).trans s3).trans s4) hfl, ?_⟩
        rw [upd_same, take_step hr1, List.map_append, List.length_map]
        show some (HO.lst (_ ++ [V.int (_ + _)])) = some (HO.lst (_ ++ [V.int _]))
        rw [len_wAt]
    · rintro σ H1 ⟨y, rfl, s1, h1⟩
      rw [List.length_map, hl, List.take_length] at h1
      exact ⟨_, rfl, q _ fl s1 (SqL.of h1)⟩
end

/-! the stack: its rows' words, from the top -/
def natV (i : Nat) : V := .int (i : Int)
def stW (rows : List Row) (st : List Nat) : List Str := (st.reverse.map (w rows)).flatten
theorem stW_top (rows : List Row) (st : List Nat) (i : Nat) : stW rows (st ++ [i]) = w rows i ++ stW rows st := by
  unfold stW
  rw [List.reverse_append, List.reverse_singleton, List.singleton_append, List.map_cons, List.flatten_cons]
theorem stW_more (rows : List Row) (st more : List Nat) : stW rows (st ++ more.reverse) = (more.map (w rows)).flatten ++ stW rows st := by
  unfold stW
  rw [List.reverse_append, List.reverse_reverse, List.map_append, List.flatten_append]
theorem short_len : ∀ l : List Str, Short l → (l.map (·.length)).sum ≤ 8 * l.length
  | [], _ => Nat.zero_le _
  | x :: l, h => by
    have h1 := h x List.mem_cons_self
    have h2 := short_len l fun y hy => h y (List.mem_cons_of_mem _ hy)
    rw [List.map_cons, List.sum_cons, List.length_cons]
    omega
theorem st_ints {st : List Nat} {ns : List Int} (h : ∀ n ∈ ns, 0 ≤ n) : st.map natV ++ (ns.map V.int).reverse = (st ++ (ns.map Int.toNat).reverse).map natV := by
  rw [List.map_append, ← List.map_reverse, ← List.map_reverse, List.map_map]
  congr 1
  refine List.map_congr_left fun n hn => ?_
  have := h n (List.mem_reverse.mp hn)
  show V.int n = V.int ((n.toNat : Nat) : Int)
  rw [show ((n.toNat : Nat) : Int) = n by omega]
theorem st_len (rows : List Row) (st : List Nat) (h : ∀ i ∈ st, 1 ≤ (w rows i).length) : st.length ≤ (stW rows st).length := by
  unfold stW
  have : ∀ l : List Nat, (∀ i ∈ l, 1 ≤ (w rows i).length) → l.length ≤ ((l.map (w rows)).flatten).length := by
    intro l
    induction l with
    | nil => intro _; exact Nat.zero_le _
    | cons i l ih =>
      intro h
      have h1 := h i List.mem_cons_self
      have h2 := ih fun j hj => h j (List.mem_cons_of_mem _ hj)
      rw [List.map_cons, List.flatten_cons, List.length_append, List.length_cons]
      omega
  rw [← List.length_reverse (as := st)]
  exact this _ fun i hi => h i (List.mem_reverse.mp hi)
def WT (rows : List Row) (t wl wt : Addr) (H1 : Hp) (m : Nat) (σ : L2.St) (H' : Hp) : Prop := ∃ (st : List Nat) (ws : List Str) (y : Option V), σ = [some (.ref t), some (.ref wl), some (.ref wt), y] ∧ Same H1 H' ∧ H' wl = some (.lst (ws.map V.str)) ∧ H' wt = some (.lst (st.map natV)) ∧
  ws ++ stW rows st = w rows (rows.length - 1) ∧ (∀ i ∈ st, i < rows.length) ∧ m = (stW rows st).length
section
variable {P : Program} {w : World} {K : PySem.W.Frag} {mg : Str → Option Value} {base : Heap}
def spText (K : PySem.W.Frag) (cE : Addr) : Sp := fun vs H Q E => ∃ (t : Addr) (rows : List Row), vs = [.ref t] ∧ SayAt K H t rows ∧ GoodSay rows ∧
  ((Fx.w rows (rows.length - 1)).length ≤ 400 → ∀ H', Same H H' → Q (.str (jn (Fx.w rows (rows.length - 1)))) H') ∧ (400 < (Fx.w rows (rows.length - 1)).length → ∀ H', Same H H' → E (.ref cE) none H')
structure Wy (mg : Str → Option Value) where
  u : Value
  gWORDY : mg "WORDY" = some u
  rWORDY : RelV (.int 400) u
theorem ok_text {f : Addr} {fd : FuncData} (F : Fun K "text_of" "text_of" stext_of f fd) (T : Bi mg) (S : XOne K mg "TooGreat") (W : Wy mg) (chead_of : Cal P w K mg base 1 "head_of" ["row"] (spHead K)) (cnumbers_of : Cal P w K mg base 1 "numbers_of" ["row"] (spNums K)) (cwords_in : Cal P w K mg base 2 "words_in" ["saying"] (spWin K)) : FnOk P w K mg base (L2.CX P w) 3 f fd ["saying"] (spText K S.R) := by
  have xTooGreat := S.xR
  have rE := S.r
  refine F.okX sctext_of (fun vs H Q E h => ?_) (fun cdv A outer s H vs Q E hr h => ?_)
  · obtain ⟨t, rows, rfl, _⟩ := h
    rfl
  · obtain ⟨t, rows, rfl, SY, g, q1, q2⟩ := h
    obtain ⟨ra, hra, hr2⟩ := SY.ex
    have hl : ra.length = rows.length := hr2.len
    have lo := g.lo
    have hi := g.hi
    have ne : ∀ i, i < rows.length → 1 ≤ (Fx.w rows i).length := fun i h => w_ne (List.getElem?_eq_getElem h)
    refine ⟨_, (pss_cons (ps_if (pt_cmpR op_gt (pe_ix ix_list (pe_call cwords_in.G hr (by rfl) cwords_in.g cwords_in.kp cwords_in.b .nil pass0 (pa_cons (pv 0) pa_nil)) (pe_un un_neg pe_int) (fun _ _ => rfl)) (pe_glob rfl W.gWORDY W.rWORDY) (nomark _))
        (pss_one (ps_raise rfl (takes_of rfl rfl rfl rfl) (pmk_own PySem.F.excBase_ValueError rE.x xTooGreat.g xTooGreat.k (raises_own xTooGreat.b xTooGreat.t) rfl)))
        pss_nil)
      (pss_cons (ps_set (i := 1) sctext_of.nd rfl (.inl rfl) (pe_lst pa_nil))
      (pss_cons (ps_set (i := 2) sctext_of.nd rfl (.inl rfl) (pe_lst (pa_cons (pe_op op_sub (pe_callB call_len_seq (by rfl) T.len PySem.boot_len (pa_cons (pv 0) pa_nil)) pe_int) pa_nil)))
      (pss_cons (ps_while (passes_of rfl) (pt_truth (pv 2) (by intro _; rfl))
        (pss_cons (ps_set (i := 3) sctext_of.nd rfl (.inl rfl) (pe_ix ix_tup (pv 0) (pe_bm0 PySem.F.plainAttrs_list PySem.F.slot_list_pop PySem.F.type_list_pop mt_pop (pv 2)) (fun _ _ => rfl)))
        (pss_cons (ps_expr (pe_bm PySem.F.plainAttrs_list PySem.F.slot_list_extend PySem.F.type_list_extend EXT.mt_extT (pv 1) (pa_cons (pe_call chead_of.G (hr.mono (by decide)) (by rfl) chead_of.g chead_of.kp chead_of.b .nil pass0 (pa_cons (pv 3) pa_nil)) pa_nil)))
        (pss_one (ps_expr (pe_bm PySem.F.plainAttrs_list PySem.F.slot_list_extend PySem.F.type_list_extend EXT.mt_extT (pv 2) (pa_cons (BkT.pe_back (pe_call cnumbers_of.G (hr.mono (by decide)) (by rfl) cnumbers_of.g cnumbers_of.kp cnumbers_of.b .nil pass0 (pa_cons (pv 3) pa_nil)) (po_some (pe_un un_neg pe_int))) pa_nil)))))))
      (pss_one (ps_ret (pe_join pe_str (pv 1)))))))), ?_⟩
    refine ⟨_, rfl, t, rows, rfl, SY, g, fun H1 p s1 hp => ⟨_, rfl, p, _, _, _, rfl, rfl, hp, atI_lastD (by rw [wAll_len]; exact lo), _, _, rfl, rfl, _, rfl, ?_⟩⟩
    rw [wAll_len, show (wAll rows).getD (rows.length - 1) [] = Fx.w rows (rows.length - 1) from rfl]
    by_cases hb : (Fx.w rows (rows.length - 1)).length ≤ 400
    case neg =>
      rw [decide_eq_true (by omega)]
      exact iteT (q2 (by omega) H1 s1)
    rw [decide_eq_false (by omega)]
    have SH : Short (Fx.w rows (rows.length - 1)) := w_short g.gr rows.length _ (by omega)
    refine iteF ⟨Nat.zero_le _, fun wl hwl => ?_⟩
    have sw := same_upd (o := .lst []) hwl
    refine ⟨_, rfl, t, _, rfl, .inr (ssqt sw (ssqt s1 hra)), _, _, rfl, rfl, by show 1 ≤ sizeLine; decide, fun wt hwt => ?_⟩
    have st := same_upd (o := .lst [.int (((ra.map V.ref).length : Nat) - 1)]) hwt
    have nwt : wl ≠ wt := ne_of_none upd_same hwt
    have hwt1 : H1 wt = none := by
      rw [upd_ne nwt.symm] at hwt
      exact hwt
    refine ⟨WT rows t wl wt H1, ⟨_, [rows.length - 1], [], none, rfl, sw.trans st, ?_, ?_, ?_, ?_, rfl⟩, ?_⟩
    · rw [upd_ne nwt, upd_same]
      rfl
    · rw [upd_same, List.length_map, hl]
      show some (HO.lst [V.int ((rows.length : Int) - 1)]) = some (HO.lst [V.int ((rows.length - 1 : Nat) : Int)])
      rw [show ((rows.length - 1 : Nat) : Int) = (rows.length : Int) - 1 by omega]
    · show [] ++ (Fx.w rows (rows.length - 1) ++ []) = _
      rw [List.nil_append, List.append_nil]
    · intro i hi
      rw [List.mem_singleton.mp hi]
      omega
    rintro m σ H2 ⟨st, ws, y, rfl, s2, h2w, h2t, e, hst, rfl⟩
    refine ⟨_, rfl, _, .inl ⟨_, SqL.of h2t, rfl⟩, ?_⟩
    rcases nil_or_snoc st with rfl | ⟨st', i, rfl⟩
    · rw [show stW rows [] = [] from rfl, List.append_nil] at e
      subst e
      refine ⟨⟨_, rfl⟩, _, rfl, _, wl, Fx.w rows (rows.length - 1), rfl, rfl, .inl (SqL.of h2w), ?_, ?_⟩
      · have := short_len _ SH
        have h1 : (Str.ofString " ").length = 1 := by decide
        rw [h1]
        omega
      · show Q (.str (Txt.join sp1 _)) H2
        rw [join_txt]
        exact q1 hb H2 (s1.trans s2)
    · have il : i < rows.length := hst i (by simp)
      rw [stW_top] at e ⊢
      have hri : rows[i]? = some rows[i] := List.getElem?_eq_getElem il
      generalize rows[i] = r at hri
      have gr := g.gr i r hri
      obtain ⟨a, ha, hr3⟩ := hr2.getx hri
      have nl := nums_le gr
      have n0 := nums_in gr
      have ew := w_of g hri
      have lw : (Fx.w rows i).length = r.words.length + (((r.nums.map Int.toNat).map (Fx.w rows)).flatten).length := by rw [ew, List.length_append]
      have le : ws.length + ((Fx.w rows i).length + (stW rows st').length) = (Fx.w rows (rows.length - 1)).length := by rw [← e, List.length_append, List.length_append]
      have lst := st_len rows st' fun j hj => ne j (hst j (by simp [hj]))
      rw [List.map_append] at h2t
      rw [show (!(List.map natV (st' ++ [i])).isEmpty) = true by simp]
      refine ⟨fun σ' H' => ∃ m', m' < (Fx.w rows i ++ stW rows st').length ∧ WT rows t wl wt H1 m' σ' H', fun _ _ h => h, ?_⟩
      refine ⟨_, rfl, _, rfl, .inl ⟨rfl, _, SqL.of h2t⟩, wt, _, _, rfl, rfl, h2t, last_at, ?_⟩
      rw [show (st'.map natV ++ [i].map natV).dropLast = st'.map natV from List.dropLast_concat]
      have s3 : Same H1 (L2.upd H2 wt (.lst (st'.map natV))) := smut s2 hwt1
      have h3w : (L2.upd H2 wt (.lst (st'.map natV))) wl = some (.lst (ws.map V.str)) := by rw [upd_ne nwt, h2w]
      have h3t : (L2.upd H2 wt (.lst (st'.map natV))) wt = some (.lst (st'.map natV)) := upd_same
      generalize L2.upd H2 wt (.lst (st'.map natV)) = H3 at s3 h3w h3t
      refine ⟨t, _, _, _, rfl, rfl, ssqt s3 (ssqt s1 hra), atI_nat (get_map ha), ?_⟩
      refine ⟨_, rfl, .inl ⟨rfl, _, SqL.of h3w⟩, _, rfl, a, r, i, rfl, ssqt s3 (ssqt s1 hr3), gr, fun H4 p4 s4 hp4 => ?_⟩
      have h4w := s4 _ _ h3w
      have h4t := s4 _ _ h3t
      refine ⟨wl, p4, _, _, rfl, rfl, h4w, hp4, szOk (by rw [List.length_map, List.length_map]; omega), ?_⟩
      have s5 : Same H1 (L2.upd H4 wl (.lst (ws.map V.str ++ r.words.map V.str))) := smut (s3.trans s4) hwl
      have h5w : (L2.upd H4 wl (.lst (ws.map V.str ++ r.words.map V.str))) wl = some (.lst ((ws ++ r.words).map V.str)) := by rw [upd_same, List.map_append]
      have h5t : (L2.upd H4 wl (.lst (ws.map V.str ++ r.words.map V.str))) wt = some (.lst (st'.map natV)) := by rw [upd_ne nwt.symm, h4t]
      generalize L2.upd H4 wl (.lst (ws.map V.str ++ r.words.map V.str)) = H5 at s5 h5w h5t
      refine ⟨_, rfl, .inl ⟨rfl, _, SqL.of h5t⟩, _, rfl, a, r, i, rfl, ssqt s5 (ssqt s1 hr3), gr, fun H6 p6 s6 hp6 => ?_⟩
      refine ⟨_, rfl, _, rfl, rfl, p6, _, rfl, hp6, fun p7 hp7 => ?_⟩
      have s7 := same_upd (o := .tup (r.nums.map V.int).reverse) hp7
      have h7t := s7 _ _ (s6 _ _ h5t)
      have h7w := s7 _ _ (s6 _ _ h5w)
      refine ⟨wt, p7, _, _, rfl, rfl, h7t, SqT.of upd_same, szOk (by rw [List.length_map, List.length_reverse, List.length_map]; omega), ?_⟩
      refine ⟨_, ?_, st' ++ (r.nums.map Int.toNat).reverse, ws ++ r.words, _, rfl, smut ((s5.trans s6).trans s7) hwt1, ?_, ?_, ?_, ?_, rfl⟩
      · rw [stW_more, List.length_append, List.length_append]
        have := words_ne (r := r)
        omega
      · rw [upd_ne nwt, h7w]
      · rw [upd_same, st_ints fun n hn => (n0 n hn).1]
      · rw [stW_more, List.append_assoc, ← List.append_assoc r.words, ← ew]
        exact e
      · intro j hj
        rcases List.mem_append.mp hj with hj | hj
        · exact hst j (by simp [hj])
        · obtain ⟨n, hn, rfl⟩ := List.mem_map.mp (List.mem_reverse.mp hj)
          have := n0 n hn
          omega
end

/-! ### what reading tells, plainly -/
def GoodAll (rows : List Row) : Prop := ∀ j r, rows[j]? = some r → GoodRow j r
theorem good_snoc {rows : List Row} {r : Row} (g : GoodAll rows) (h : GoodRow rows.length r) : GoodAll (rows ++ [r]) := by
  intro j x hj
  by_cases hl : j < rows.length
  · rw [List.getElem?_append_left hl] at hj
    exact g j x hj
  · rw [List.getElem?_append_right (by omega)] at hj
    have : j - rows.length = 0 := by
      have := (List.getElem?_eq_some_iff.mp hj).1
      simp only [List.length_singleton] at this
      omega
    rw [this] at hj
    cases hj
    rw [show j = rows.length by omega]
    exact h
def encK : Row → Ky
  | .mark z => [.inr (Str.ofString "mark"), .inr z]
  | .word x ns => .inr x :: ns.map .inl
  | .run x f ns => .inr x :: .inr f :: ns.map .inl
theorem encK_enc (r : Row) : (encK r).map kV = r.enc := by
  cases r with
  | mark z => rfl
  | word x ns =>
    show V.str x :: (ns.map Sum.inl).map kV = V.str x :: ns.map V.int
    rw [List.map_map]
    rfl
  | run x f ns =>
    show V.str x :: V.str f :: (ns.map Sum.inl).map kV = V.str x :: V.str f :: ns.map V.int
    rw [List.map_map]
    rfl
theorem inl_inj {a b : List Int} (h : a.map (Sum.inl : Int → L2.Key) = b.map Sum.inl) : a = b := by
  induction a generalizing b with
  | nil => cases b with
    | nil => rfl
    | cons y b => cases h
  | cons x a ih => cases b with
    | nil => cases h
    | cons y b =>
      rw [List.map_cons, List.map_cons, List.cons.injEq] at h
      rw [Sum.inl.inj h.1, ih h.2]
theorem encK_inj {k k' : Nat} {r r' : Row} (g : GoodRow k r) (g' : GoodRow k' r') (e : encK r = encK r') : r = r' := by
  cases r with
  | mark z => cases r' with
    | mark z' =>
      cases e
      rfl
    | word x ns =>
      have := Sum.inr.inj (List.cons.inj e).1
      exact absurd this.symm (parts_no g'.1).1
    | run x f ns =>
      have := Sum.inr.inj (List.cons.inj e).1
      exact absurd this.symm (whose_no g'.1)
  | word x ns => cases r' with
    | mark z' =>
      have := Sum.inr.inj (List.cons.inj e).1
      exact absurd this (parts_no g.1).1
    | word x' ns' =>
      obtain ⟨e1, e2⟩ := List.cons.inj e
      rw [Sum.inr.inj e1, inl_inj e2]
    | run x' f ns' =>
      have := Sum.inr.inj (List.cons.inj e).1
      exact absurd g'.1 (by rw [← this]; exact (parts_no g.1).2)
  | run x f ns => cases r' with
    | mark z' =>
      have := Sum.inr.inj (List.cons.inj e).1
      exact absurd this (whose_no g.1)
    | word x' ns' =>
      have := Sum.inr.inj (List.cons.inj e).1
      exact absurd g.1 (by rw [this]; exact (parts_no g'.1).2)
    | run x' f' ns' =>
      obtain ⟨e1, e2⟩ := List.cons.inj e
      obtain ⟨e3, e4⟩ := List.cons.inj e2
      rw [Sum.inr.inj e1, Sum.inr.inj e3, inl_inj e4]
theorem drop_ws {ws : List Str} {k : Nat} (h : k < ws.length) : ws.drop k = ws.getD k sp1 :: ws.drop (k + 1) := by
  rw [List.drop_eq_getElem_cons h, List.getD_eq_getElem?_getD, List.getElem?_eq_getElem h]
  rfl
theorem head_row {ws : List Str} {m n r k : Nat} {h : List Str} {ps : List Int} (e : headP ws m = some (h, n, r)) (hm : m < ws.length) (hl : ps.length = n) (hp : ∀ p ∈ ps, 0 ≤ p ∧ p < (k : Int)) :
    ∃ row, encK row = keyR h ps ∧ GoodRow k row ∧ row.nums = ps ∧ row.words ++ ws.drop (m + 1) = ws.drop r := by
  unfold headP at e
  split at e
  · rename_i n1 e1
    by_cases e0 : m = 0
    · rw [if_pos e0] at e
      cases e
    · rw [if_neg e0] at e
      by_cases e2 : ws.getD (m - 1) sp1 ∈ whoseL
      · rw [if_pos e2] at e
        cases e
        refine ⟨.run (ws.getD (m - 1) sp1) (ws.getD m sp1) ps, rfl, ⟨e2, by rw [hl]; exact lookF e1, hp⟩, rfl, ?_⟩
        rw [drop_ws (k := m - 1) (by omega), show m - 1 + 1 = m by omega, drop_ws hm]
        rfl
      · rw [if_neg e2] at e
        cases e
  · split at e
    · rename_i n1 e1
      cases e
      refine ⟨.word (ws.getD m sp1) ps, rfl, ⟨by rw [hl]; exact lookP e1, hp⟩, rfl, ?_⟩
      rw [drop_ws hm]
      rfl
    · by_cases e2 : nmB (ws.getD m sp1) = true
      · rw [if_pos e2] at e
        cases e
        cases ps with
        | nil =>
          refine ⟨.mark (ws.getD m sp1), rfl, nm_good.mp e2, rfl, ?_⟩
          rw [drop_ws hm]
          rfl
        | cons p ps => simp at hl
      · rw [if_neg e2] at e
        cases e
structure RdI (ws : List Str) (m : Nat) (rows : List Ky) (st : List Int) (fr : List Row) : Prop where
  eq : rows = fr.map encK
  good : GoodAll fr
  nd : rows.Nodup
  bd : ∀ n ∈ st, 0 ≤ n ∧ n < (rows.length : Int)
  tx : (st.map fun n => w fr n.toNat).flatten = ws.drop m
  sp : ∀ i : Nat, i < rows.length → (i : Int) ∈ st ∨ ∃ (j : Nat) (r : Row), fr[j]? = some r ∧ (i : Int) ∈ r.nums
theorem rdi0 {ws : List Str} : RdI ws ws.length [] [] [] where
  eq := rfl
  good := fun _ _ h => nomatch h
  nd := List.nodup_nil
  bd := fun _ h => absurd h List.not_mem_nil
  tx := by
    rw [List.drop_length]
    rfl
  sp := fun _ h => absurd h (Nat.not_lt_zero _)
theorem w_good {fr : List Row} (g : GoodAll fr) {i : Nat} {r : Row} (h : fr[i]? = some r) : w fr i = r.words ++ (r.nums.map fun n => w fr n.toNat).flatten := w_eq h (g i r h)
theorem w_pre {fr : List Row} {x : Row} {i : Nat} (h : i < fr.length) : w (fr ++ [x]) i = w fr i := by
  rw [← w_take (rows := fr ++ [x]) h, List.take_append_of_le_length (Nat.le_refl _), List.take_length]
theorem pi_step {ws : List Str} {m n r : Nat} {h : List Str} {rows : List Ky} {st : List Int} {fr : List Row} (I : RdI ws (m + 1) rows st fr) (e : headP ws m = some (h, n, r)) (hn : n ≤ st.length) (hm : m < ws.length) :
    ∃ fr', RdI ws r (rowsR rows (keyR h (st.take n))) (numR rows (keyR h (st.take n)) :: st.drop n) fr' := by
  have lr : rows.length = fr.length := by rw [I.eq, List.length_map]
  obtain ⟨row, k1, k2, k3, k4⟩ := head_row (k := rows.length) (ps := st.take n) e hm (by rw [List.length_take]; omega) (fun p hp => I.bd p (List.mem_of_mem_take hp))
  have sd : ∀ (f : Int → List Str), (st.map f).flatten = ((st.take n).map f).flatten ++ ((st.drop n).map f).flatten := fun f => by
    rw [← List.flatten_append, ← List.map_append, List.take_append_drop]
  have sm : ∀ x, x ∈ st → x ∈ st.take n ∨ x ∈ st.drop n := fun x hx => by
    rw [← List.take_append_drop n st] at hx
    exact List.mem_append.mp hx
  cases hp : posK rows 0 (keyR h (st.take n)) with
  | some i =>
    obtain ⟨a, b, c⟩ := pos_lt hp
    rw [show i - ((0 : Nat) : Int) = i by omega, I.eq] at c
    have e1 : rowsR rows (keyR h (st.take n)) = rows := by
      unfold rowsR
      rw [hp]
    have e2 : numR rows (keyR h (st.take n)) = i := by
      unfold numR
      rw [hp]
      rfl
    rw [e1, e2]
    rw [List.getElem?_map] at c
    obtain ⟨row', c1, c2⟩ := Option.map_eq_some_iff.mp c
    have er : row' = row := encK_inj (I.good _ _ c1) k2 (c2.trans k1.symm)
    rw [er] at c1
    refine ⟨fr, I.eq, I.good, I.nd, ?_, ?_, ?_⟩
    · intro x hx
      rcases List.mem_cons.mp hx with rfl | hx
      · exact ⟨by omega, by omega⟩
      · exact I.bd x (List.mem_of_mem_drop hx)
    · rw [List.map_cons, List.flatten_cons, w_good I.good c1, k3, List.append_assoc, ← sd, I.tx]
      exact k4
    · intro j hj
      rcases I.sp j hj with hs | hs
      · rcases sm _ hs with hs | hs
        · exact .inr ⟨_, row, c1, by rw [k3]; exact hs⟩
        · exact .inl (List.mem_cons_of_mem _ hs)
      · exact .inr hs
  | none =>
    have e1 : rowsR rows (keyR h (st.take n)) = rows ++ [keyR h (st.take n)] := by
      unfold rowsR
      rw [hp]
    have e2 : numR rows (keyR h (st.take n)) = (rows.length : Nat) := by
      unfold numR
      rw [hp]
      rfl
    rw [e1, e2]
    have gg : GoodAll (fr ++ [row]) := good_snoc I.good (by rw [← lr]; exact k2)
    have at1 : (fr ++ [row])[rows.length]? = some row := by
      rw [List.getElem?_append_right (by omega), lr, Nat.sub_self]
      rfl
    have pre : ∀ l : List Int, (∀ x ∈ l, x ∈ st) → (l.map fun n => w (fr ++ [row]) n.toNat) = l.map fun n => w fr n.toNat := fun l hl => List.map_congr_left fun x hx => by
      have := I.bd x (hl x hx)
      exact w_pre (by omega)
    refine ⟨fr ++ [row], ?_, gg, ?_, ?_, ?_, ?_⟩
    · rw [List.map_append, I.eq]
      show _ = _ ++ [encK row]
      rw [k1]
    · rw [List.nodup_append]
      refine ⟨I.nd, List.nodup_cons.mpr ⟨List.not_mem_nil, List.nodup_nil⟩, fun x hx y hy => ?_⟩
      rw [List.mem_singleton.mp hy]
      exact fun q => pos_none.mp hp (by rw [← q]; exact hx)
    · intro x hx
      rw [List.length_append]
      rcases List.mem_cons.mp hx with rfl | hx
      · exact ⟨by omega, by show ((rows.length : Nat) : Int) < ((rows.length + 1 : Nat) : Int); omega⟩
      · have := I.bd x (List.mem_of_mem_drop hx)
        exact ⟨this.1, by show x < ((rows.length + 1 : Nat) : Int); omega⟩
    · rw [List.map_cons, List.flatten_cons, Int.toNat_natCast, w_good gg at1, k3, List.append_assoc, pre _ (fun x hx => List.mem_of_mem_take hx), pre _ (fun x hx => List.mem_of_mem_drop hx), ← sd, I.tx]
      exact k4
    · intro j hj
      rw [List.length_append] at hj
      have hj : j < rows.length + 1 := hj
      by_cases hjl : j = rows.length
      · exact .inl (by rw [hjl]; exact List.mem_cons_self)
      · rcases I.sp j (by omega) with hs | ⟨j', r', hs, hr'⟩
        · rcases sm _ hs with hs | hs
          · exact .inr ⟨rows.length, row, at1, by rw [k3]; exact hs⟩
          · exact .inl (List.mem_cons_of_mem _ hs)
        · have : j' < fr.length := (List.getElem?_eq_some_iff.mp hs).1
          exact .inr ⟨j', r', by rw [List.getElem?_append_left this]; exact hs, hr'⟩
theorem pi_fin {ws : List Str} : ∀ (N m : Nat) (rows : List Ky) (st : List Int) (fr : List Row), m ≤ N → m ≤ ws.length → RdI ws m rows st fr → ∀ rows' st', fin ws m rows st = some (rows', st') → ∃ fr', RdI ws 0 rows' st' fr'
  | N, 0, rows, st, fr, _, _, I, rows', st', e => by
    rw [fin0] at e
    cases e
    exact ⟨fr, I⟩
  | 0, m + 1, _, _, _, hm, _, _, _, _, _ => absurd hm (by omega)
  | N + 1, m + 1, rows, st, fr, hm, hl, I, rows', st', e => by
    cases eh : headP ws m with
    | none =>
      rw [finN eh] at e
      cases e
    | some x =>
      obtain ⟨hd, q, r⟩ := x
      obtain ⟨h0, hs, rfl, lh, n2, hr⟩ := head_cases eh
      have hrm : r ≤ m := by omega
      by_cases hq : st.length < q
      · rw [finF eh hq] at e
        cases e
      · rw [finS eh (by omega) hrm] at e
        obtain ⟨fr1, I1⟩ := pi_step I eh (by omega) (by omega)
        exact pi_fin N r _ _ fr1 (by omega) (by omega) I1 rows' st' e
/-- what is read: rows that can stand, unlike, each but the last spoken of, telling the words again -/
structure Told (ws : List Str) (rows : List Ky) (fr : List Row) : Prop where
  eq : rows = fr.map encK
  good : GoodSay fr
  nd : rows.Nodup
  tx : w fr (fr.length - 1) = ws
  sp : ∀ i : Nat, i < fr.length → ((∃ (j : Nat) (r : Row), fr[j]? = some r ∧ (i : Int) ∈ r.nums) ↔ i < fr.length - 1)
theorem read_told {ws : List Str} {rows : List Ky} (e : readP ws = some rows) : ∃ fr, Told ws rows fr := by
  unfold readP at e
  split at e
  · cases e
  · cases ef : fin ws ws.length [] [] with
    | none =>
      rw [ef] at e
      cases e
    | some x =>
      obtain ⟨rr, st⟩ := x
      rw [ef] at e
      dsimp only at e
      split at e
      · rename_i h
        cases e
        obtain ⟨fr, I⟩ := pi_fin ws.length ws.length [] [] [] (Nat.le_refl _) (Nat.le_refl _) rdi0 _ _ ef
        have lr : rows.length = fr.length := by rw [I.eq, List.length_map]
        obtain ⟨n, rfl⟩ : ∃ n, st = [n] := by
          match st, h.1 with
          | [n], _ => exact ⟨n, rfl⟩
        have hn := I.bd n List.mem_cons_self
        have spk : ∀ (i j : Nat) (r : Row), fr[j]? = some r → (i : Int) ∈ r.nums → i < j := fun i j r h1 h2 => by
          have := nums_in (I.good j r h1) _ h2
          omega
        have last : n = ((fr.length - 1 : Nat) : Int) := by
          rcases I.sp (fr.length - 1) (by omega) with hs | ⟨j, r, hs, hr⟩
          · exact (List.mem_singleton.mp hs).symm
          · have := spk _ _ _ hs hr
            have := (List.getElem?_eq_some_iff.mp hs).1
            omega
        refine ⟨fr, I.eq, ⟨by omega, by omega, I.good⟩, I.nd, ?_, fun i hi => ⟨?_, fun hi2 => ?_⟩⟩
        · have t := I.tx
          rw [List.drop_zero, last] at t
          rw [← t]
          show _ = w fr (((fr.length - 1 : Nat) : Int).toNat) ++ []
          rw [List.append_nil, Int.toNat_natCast]
        · rintro ⟨j, r, hs, hr⟩
          have := spk _ _ _ hs hr
          have := (List.getElem?_eq_some_iff.mp hs).1
          omega
        · rcases I.sp i (by omega) with hs | hs
          · have := List.mem_singleton.mp hs
            omega
          · exact hs
      · cases e

/-! ### what a saying's words read as -/
def hdR : Row → List Str
  | .mark z => [Str.ofString "mark", z]
  | .word x _ => [x]
  | .run x f _ => [x, f]
theorem getD_mid {pre suf : List Str} {x : Str} : (pre ++ x :: suf).getD pre.length sp1 = x := by
  rw [List.getD_eq_getElem?_getD, List.getElem?_append_right (Nat.le_refl _), Nat.sub_self]
  rfl
theorem name_lookup {z : Str} (g : GoodName z) : formsL.lookup z = none ∧ partsL.lookup z = none := by
  have hf : ∀ y ∈ formsL.map (·.1), y ∈ wordsL := by decide +kernel
  have hp : ∀ y ∈ partsL.map (·.1), y ∈ wordsL := by decide +kernel
  constructor
  · cases e : formsL.lookup z with
    | none => rfl
    | some n => exact absurd (hf z (lookup_mem e)) g.nw
  · cases e : partsL.lookup z with
    | none => rfl
    | some n => exact absurd (hp z (lookup_mem e)) g.nw
theorem parts_lookup {x : Str} {n : Nat} (h : (x, n) ∈ partsL) : formsL.lookup x = none ∧ partsL.lookup x = some n := by
  have : ∀ p ∈ partsL, formsL.lookup p.1 = none ∧ partsL.lookup p.1 = some p.2 := by decide +kernel
  exact this _ h
theorem forms_lookup {x : Str} {n : Nat} (h : (x, n) ∈ formsL) : formsL.lookup x = some n := by
  have : ∀ p ∈ formsL, formsL.lookup p.1 = some p.2 := by decide +kernel
  exact this _ h
theorem head_mid {pre suf : List Str} {r : Row} {k : Nat} (g : GoodRow k r) : ∃ m, m + 1 = pre.length + r.words.length ∧ pre.length ≤ m ∧ headP (pre ++ r.words ++ suf) m = some (hdR r, r.nums.length, pre.length) := by
  cases r with
  | mark z =>
    refine ⟨pre.length, rfl, Nat.le_refl _, ?_⟩
    have e : (pre ++ Row.words (.mark z) ++ suf) = pre ++ z :: suf := by simp [Row.words]
    unfold headP
    rw [e, getD_mid, (name_lookup g).1, (name_lookup g).2]
    show (if nmB z = true then _ else _) = _
    rw [if_pos (nm_good.mpr g)]
    rfl
  | word x ns =>
    refine ⟨pre.length, rfl, Nat.le_refl _, ?_⟩
    have e : (pre ++ Row.words (.word x ns) ++ suf) = pre ++ x :: suf := by simp [Row.words]
    unfold headP
    rw [e, getD_mid, (parts_lookup g.1).1, (parts_lookup g.1).2]
    rfl
  | run x f ns =>
    refine ⟨pre.length + 1, rfl, Nat.le_succ _, ?_⟩
    have e : (pre ++ Row.words (.run x f ns) ++ suf) = (pre ++ [x]) ++ f :: suf := by simp [Row.words]
    have e2 : (pre ++ [x]) ++ f :: suf = pre ++ x :: (f :: suf) := by simp
    have l1 : (pre ++ [x]).length = pre.length + 1 := by simp
    have a1 : ((pre ++ [x]) ++ f :: suf).getD (pre.length + 1) sp1 = f := by rw [← l1]; exact getD_mid
    have a2 : ((pre ++ [x]) ++ f :: suf).getD pre.length sp1 = x := by rw [e2]; exact getD_mid
    unfold headP
    rw [e, a1, forms_lookup g.2.1]
    show (if pre.length + 1 = 0 then none else if ((pre ++ [x]) ++ f :: suf).getD pre.length sp1 ∈ whoseL then some ([((pre ++ [x]) ++ f :: suf).getD pre.length sp1, f], ns.length, pre.length) else none) = _
    rw [if_neg (Nat.succ_ne_zero _), a2, if_pos g.1]
    rfl
/-- which row was read as which -/
structure Mem (S : List Row) (rows : List Ky) (f : Nat → Option Int) : Prop where
  ok : ∀ o n, f o = some n → 0 ≤ n ∧ n < (rows.length : Int) ∧ o < S.length ∧ ∃ r ps, S[o]? = some r ∧ r.nums.map (fun k => f k.toNat) = ps.map some ∧ rows[n.toNat]? = some (keyR (hdR r) ps)
  sur : ∀ i : Nat, i < rows.length → ∃ o, f o = some (i : Int)
  nd : rows.Nodup
def Ext (f g : Nat → Option Int) : Prop := ∀ o n, f o = some n → g o = some n
theorem map_ext {f g : Nat → Option Int} (h : Ext f g) : ∀ {l : List Int} {ps : List Int}, l.map (fun k => f k.toNat) = ps.map some → l.map (fun k => g k.toNat) = ps.map some
  | [], ps, e => e
  | x :: l, ps, e => by
    cases ps with
    | nil => cases e
    | cons p ps =>
      rw [List.map_cons, List.map_cons] at e
      obtain ⟨e1, e2⟩ := List.cons.inj e
      rw [List.map_cons, List.map_cons, h _ _ e1, map_ext h e2]
theorem some_inj : ∀ {a b : List Int}, a.map some = b.map some → a = b
  | [], [], _ => rfl
  | [], _ :: _, e => by cases e
  | _ :: _, [], e => by cases e
  | x :: a, y :: b, e => by
    obtain ⟨e1, e2⟩ := List.cons.inj e
    rw [Option.some.inj e1, some_inj e2]
def setF (f : Nat → Option Int) (o : Nat) (n : Int) : Nat → Option Int := fun x => if x = o then some n else f x
theorem mem_step {S : List Row} {rows : List Ky} {f : Nat → Option Int} {o : Nat} {r : Row} {ns : List Int} (G : GoodSay S) (M : Mem S rows f) (hr : S[o]? = some r) (hc : r.nums.map (fun k => f k.toNat) = ns.map some) :
    ∃ g, Mem S (rowsR rows (keyR (hdR r) ns)) g ∧ Ext f g ∧ g o = some (numR rows (keyR (hdR r) ns)) := by
  have ho : o < S.length := (List.getElem?_eq_some_iff.mp hr).1
  have was : ∀ n, f o = some n → rows[n.toNat]? = some (keyR (hdR r) ns) ∧ 0 ≤ n ∧ n < (rows.length : Int) := fun n hn => by
    obtain ⟨a, b, _, r', ps, h1, h2, h3⟩ := M.ok o n hn
    rw [hr] at h1
    cases h1
    rw [hc] at h2
    rw [← some_inj h2] at h3
    exact ⟨h3, a, b⟩
  cases hp : posK rows 0 (keyR (hdR r) ns) with
  | some i =>
    obtain ⟨a, b, c⟩ := pos_lt hp
    rw [show i - ((0 : Nat) : Int) = i by omega] at c
    have e1 : rowsR rows (keyR (hdR r) ns) = rows := by
      unfold rowsR
      rw [hp]
    have e2 : numR rows (keyR (hdR r) ns) = i := by
      unfold numR
      rw [hp]
      rfl
    rw [e1, e2]
    have ext : Ext f (setF f o i) := fun x n hn => by
      unfold setF
      by_cases hx : x = o
      · rw [if_pos hx]
        rw [hx] at hn
        obtain ⟨h1, h2, h3⟩ := was n hn
        have : n.toNat = i.toNat := (List.getElem?_inj (i := n.toNat) (j := i.toNat) (by omega) M.nd).mp (h1.trans c.symm)
        rw [show i = n by omega]
      · rw [if_neg hx]
        exact hn
    refine ⟨setF f o i, ⟨?_, ?_, M.nd⟩, ext, if_pos rfl⟩
    · intro x n hn
      by_cases hx : x = o
      · subst hx
        have : i = n := Option.some.inj ((if_pos rfl).symm.trans hn)
        subst this
        exact ⟨by omega, by omega, ho, r, ns, hr, map_ext ext hc, c⟩
      · have hn : f x = some n := (if_neg hx).symm.trans hn
        obtain ⟨h1, h2, h3, r', ps, h4, h5, h6⟩ := M.ok x n hn
        exact ⟨h1, h2, h3, r', ps, h4, map_ext ext h5, h6⟩
    · intro j hj
      obtain ⟨x, hx⟩ := M.sur j hj
      exact ⟨x, ext _ _ hx⟩
  | none =>
    have e1 : rowsR rows (keyR (hdR r) ns) = rows ++ [keyR (hdR r) ns] := by
      unfold rowsR
      rw [hp]
    have e2 : numR rows (keyR (hdR r) ns) = (rows.length : Nat) := by
      unfold numR
      rw [hp]
      rfl
    rw [e1, e2]
    have ext : Ext f (setF f o (rows.length : Nat)) := fun x n hn => by
      unfold setF
      by_cases hx : x = o
      · rw [hx] at hn
        obtain ⟨h1, _, _⟩ := was n hn
        exact absurd (List.mem_of_getElem? h1) (pos_none.mp hp)
      · rw [if_neg hx]
        exact hn
    have lt : ((rows.length : Nat) : Int) < ((rows ++ [keyR (hdR r) ns]).length : Nat) := by
      rw [List.length_append]
      show ((rows.length : Nat) : Int) < ((rows.length + 1 : Nat) : Int)
      omega
    refine ⟨setF f o (rows.length : Nat), ⟨?_, ?_, ?_⟩, ext, if_pos rfl⟩
    · intro x n hn
      by_cases hx : x = o
      · subst hx
        have : ((rows.length : Nat) : Int) = n := Option.some.inj ((if_pos rfl).symm.trans hn)
        subst this
        refine ⟨by omega, lt, ho, r, ns, hr, map_ext ext hc, ?_⟩
        rw [Int.toNat_natCast, List.getElem?_append_right (Nat.le_refl _), Nat.sub_self]
        rfl
      · have hn : f x = some n := (if_neg hx).symm.trans hn
        obtain ⟨h1, h2, h3, r', ps, h4, h5, h6⟩ := M.ok x n hn
        refine ⟨h1, by omega, h3, r', ps, h4, map_ext ext h5, ?_⟩
        rw [List.getElem?_append_left (by omega)]
        exact h6
    · intro j hj
      by_cases hjl : j < rows.length
      · obtain ⟨x, hx⟩ := M.sur j hjl
        exact ⟨x, ext _ _ hx⟩
      · refine ⟨o, ?_⟩
        rw [List.length_append] at hj
        have hj : j < rows.length + 1 := hj
        rw [show j = rows.length by omega]
        exact if_pos rfl
    · rw [List.nodup_append]
      refine ⟨M.nd, List.nodup_cons.mpr ⟨List.not_mem_nil, List.nodup_nil⟩, fun x hx y hy => ?_⟩
      rw [List.mem_singleton.mp hy]
      exact fun q => pos_none.mp hp (by rw [← q]; exact hx)
def Parses (S : List Row) (ws : List Str) (o : Nat) : Prop := ∀ (pre suf : List Str), ws = pre ++ w S o ++ suf → ∀ (rows : List Ky) (f : Nat → Option Int) (st : List Int), Mem S rows f →
  ∃ rows' g n, fin ws (pre.length + (w S o).length) rows st = fin ws pre.length rows' (n :: st) ∧ Mem S rows' g ∧ Ext f g ∧ g o = some n
theorem parse_all {S : List Row} {ws : List Str} : ∀ (cs : List Int), (∀ c ∈ cs, Parses S ws c.toNat) → ∀ (pre suf : List Str), ws = pre ++ (cs.map fun n => w S n.toNat).flatten ++ suf → ∀ (rows : List Ky) (f : Nat → Option Int) (st : List Int), Mem S rows f →
    ∃ rows' g ns, fin ws (pre.length + ((cs.map fun n => w S n.toNat).flatten).length) rows st = fin ws pre.length rows' (ns ++ st) ∧ Mem S rows' g ∧ Ext f g ∧ cs.map (fun k => g k.toNat) = ns.map some
  | [], _, pre, suf, e, rows, f, st, M => ⟨rows, f, [], rfl, M, fun _ _ h => h, rfl⟩
  | c :: cs, hp, pre, suf, e, rows, f, st, M => by
    rw [List.map_cons, List.flatten_cons] at e ⊢
    obtain ⟨rows1, g1, ns1, e1, M1, x1, y1⟩ := parse_all cs (fun c hc => hp c (List.mem_cons_of_mem _ hc)) (pre ++ w S c.toNat) suf (by rw [e]; simp) rows f st M
    obtain ⟨rows2, g2, n, e2, M2, x2, y2⟩ := hp c List.mem_cons_self pre ((cs.map fun n => w S n.toNat).flatten ++ suf) (by rw [e]; simp) rows1 g1 (ns1 ++ st) M1
    refine ⟨rows2, g2, n :: ns1, ?_, M2, fun o k h => x2 _ _ (x1 _ _ h), ?_⟩
    · rw [List.length_append] at e1
      rw [List.length_append, ← Nat.add_assoc, e1, e2]
      rfl
    · rw [List.map_cons, List.map_cons, y2, map_ext x2 y1]
theorem parse {S : List Row} (G : GoodSay S) (ws : List Str) : ∀ (N o : Nat), o < N → o < S.length → Parses S ws o
  | 0, _, h, _ => absurd h (Nat.not_lt_zero _)
  | N + 1, o, h, hl => by
    intro pre suf e rows f st M
    have hr : S[o]? = some S[o] := List.getElem?_eq_getElem hl
    generalize S[o] = r at hr
    have gr := G.gr o r hr
    have n0 := nums_in gr
    have ew := w_eq hr gr
    rw [ew] at e ⊢
    obtain ⟨rows1, g1, ns, e1, M1, x1, y1⟩ := parse_all r.nums (fun c hc => by
      have := n0 c hc
      exact parse G ws N c.toNat (by omega) (by omega)) (pre ++ r.words) suf (by rw [e]; simp) rows f st M
    have ln : ns.length = r.nums.length := by
      have := congrArg List.length y1
      rw [List.length_map, List.length_map] at this
      exact this.symm
    obtain ⟨m, m1, m2, m3⟩ := head_mid (pre := pre) (suf := (r.nums.map fun n => w S n.toNat).flatten ++ suf) gr
    have ews : ws = pre ++ r.words ++ ((r.nums.map fun n => w S n.toNat).flatten ++ suf) := by rw [e]; simp
    rw [← ews] at m3
    obtain ⟨g, M2, x2, y2⟩ := mem_step G M1 hr y1
    refine ⟨_, g, _, ?_, M2, fun a b h => x2 _ _ (x1 _ _ h), y2⟩
    rw [List.length_append] at e1
    rw [List.length_append, ← Nat.add_assoc, e1, ← m1, finS m3 (by rw [List.length_append]; omega) m2, ← ln, List.take_left, List.drop_left]
theorem mem_len {S : List Row} {rows : List Ky} {f : Nat → Option Int} (M : Mem S rows f) : rows.length ≤ S.length := by
  have hc : ∀ i : Nat, ∃ o, i < rows.length → f o = some (i : Int) := fun i => by
    by_cases h : i < rows.length
    · obtain ⟨o, ho⟩ := M.sur i h
      exact ⟨o, fun _ => ho⟩
    · exact ⟨0, fun q => absurd q h⟩
  have hd : ∀ i, i < rows.length → f ((hc i).choose) = some (i : Int) := fun i h => (hc i).choose_spec h
  have nd : ((List.range rows.length).map fun i => (hc i).choose).Nodup := by
    refine List.pairwise_map.mpr ((List.pairwise_lt_range (n := rows.length)).imp_of_mem fun {a b} ha hb hab e => ?_)
    have h1 := hd a (List.mem_range.mp ha)
    have h2 := hd b (List.mem_range.mp hb)
    rw [e, h2] at h1
    have := Option.some.inj h1
    omega
  have := pigeon _ (List.range S.length) nd fun x hx => by
    obtain ⟨i, hi, rfl⟩ := List.mem_map.mp hx
    have := (M.ok _ _ (hd i (List.mem_range.mp hi))).2.2.1
    exact List.mem_range.mpr this
  rw [List.length_map, List.length_range, List.length_range] at this
  exact this
theorem mem0 {S : List Row} : Mem S [] (fun _ => none) where
  ok := fun _ _ h => nomatch h
  sur := fun i h => absurd h (Nat.not_lt_zero _)
  nd := List.nodup_nil
theorem read_good {S : List Row} (G : GoodSay S) (hb : (w S (S.length - 1)).length ≤ 400) : ∃ rows, readP (w S (S.length - 1)) = some rows := by
  have lo := G.lo
  have hi := G.hi
  obtain ⟨rows, g, n, e, M, _, _⟩ := parse G (w S (S.length - 1)) S.length (S.length - 1) (by omega) (by omega) [] [] (by simp) [] (fun _ => none) [] mem0
  rw [show ([] : List Str).length + (w S (S.length - 1)).length = (w S (S.length - 1)).length from Nat.zero_add _, show ([] : List Str).length = 0 from rfl, fin0] at e
  refine ⟨rows, ?_⟩
  unfold readP
  rw [if_neg (by omega), e]
  have := mem_len M
  exact if_pos ⟨rfl, by omega⟩
theorem split_jn {l : List Str} (h : l ≠ []) (hn : ∀ x ∈ l, 32 ∉ x.cps.toList) : Txt.split (jn l) sp1 = l := by
  rw [← join_txt]
  exact TL.split_join (y := sp1) (s := 32) (S := []) (by decide +kernel) (by decide +kernel) h hn

/-! ### the laws' own checks of numbers, tuples, sets -/
abbrev s_law_number : Stmt := topS 28
theorem sc_law_number : FnScope ["_law_thing", "_law_low", "_law_high"] ["_law_thing", "_law_low", "_law_high"] (defScope s_law_number) := ⟨rfl, rfl, rfl, by decide +kernel, rfl, by decide +kernel, by decide +kernel⟩
abbrev s_law_tuple : Stmt := topS 29
theorem sc_law_tuple : FnScope ["_law_thing", "_law_least", "_law_most"] ["_law_thing", "_law_least", "_law_most"] (defScope s_law_tuple) := ⟨rfl, rfl, rfl, by decide +kernel, rfl, by decide +kernel, by decide +kernel⟩
section
variable {P : Program} {w : World} {K : PySem.W.Frag} {mg : Str → Option Value} {base : Heap}
def spLNum : Sp := fun vs H Q _ => ∃ i lo hi : Int, vs = [.int i, .int lo, .int hi] ∧ Q (.bl (decide (lo ≤ i) && decide (i < hi))) H
theorem ok_lnum {f : Addr} {fd : FuncData} (F : Fun K "_law_number" "_law_number" s_law_number f fd) (T : Bi mg) : FnOk P w K mg base CX0 1 f fd ["_law_thing", "_law_low", "_law_high"] spLNum := by
  refine F.ok sc_law_number (fun vs H Q E h => ?_) (fun cdv A outer s H vs Q E hr h => ?_)
  · obtain ⟨i, lo, hi, rfl, _⟩ := h
    rfl
  · obtain ⟨i, lo, hi, rfl, q⟩ := h
    refine ⟨_, (pss_one (ps_ret (pe_and (pe_callB call_isi (by rfl) T.isinstance (by decide +kernel) (pa_cons (pv 0) (pa_cons (pe_bltn (v := .ty "int") (u := .type "int") (by rfl) T.int (by decide +kernel) rfl) pa_nil))) (pe_and (pe_not (pe_callB call_isi (by rfl) T.isinstance (by decide +kernel) (pa_cons (pv 0) (pa_cons (pe_bltn (v := .ty "bool") (u := .type "bool") (by rfl) T.bool (by decide +kernel) rfl) pa_nil)))) (pe_one (pe_chain op_le op_lt (pv 1) (pv 0) (pv 2))))))), ?_⟩
    refine ⟨_, rfl, _, _, _, _, true, rfl, .ty "int", .base (.int _), kit_ty (by decide +kernel), true, rfl, iteT ⟨_, rfl, _, _, _, _, false, rfl, .ty "bool", .base (.int _), kit_ty (by decide +kernel), false, rfl, true, rfl, iteT ⟨_, rfl, _, rfl, lo, i, rfl, rfl, _, rfl, ite2 (fun e => ?_) (fun e => ?_)⟩⟩⟩
    · refine ⟨_, rfl, i, hi, rfl, rfl, ?_⟩
      rw [e, Bool.true_and] at q
      exact q
    · rw [show decide (lo ≤ i) = false by simpa using e, Bool.false_and] at q
      exact q
def spLTup (K : PySem.W.Frag) : Sp := fun vs H Q _ => ∃ (a : Addr) (xs : List V) (lo hi : Int), vs = [.ref a, .int lo, .int hi] ∧ SqT K H a xs ∧ Q (.bl (decide (lo ≤ xs.length) && decide ((xs.length : Int) ≤ hi))) H
theorem ok_ltup {f : Addr} {fd : FuncData} (F : Fun K "_law_tuple" "_law_tuple" s_law_tuple f fd) (T : Bi mg) : FnOk P w K mg base CX0 1 f fd ["_law_thing", "_law_least", "_law_most"] (spLTup K) := by
  refine F.ok sc_law_tuple (fun vs H Q E h => ?_) (fun cdv A outer s H vs Q E hr h => ?_)
  · obtain ⟨a, xs, lo, hi, rfl, _⟩ := h
    rfl
  · obtain ⟨a, xs, lo, hi, rfl, hx, q⟩ := h
    refine ⟨_, (pss_one (ps_ret (pe_and (pe_callB call_isi (by rfl) T.isinstance (by decide +kernel) (pa_cons (pv 0) (pa_cons (pe_bltn (v := .ty "tuple") (u := .type "tuple") (by rfl) T.tuple (by decide +kernel) rfl) pa_nil))) (pe_one (pe_chain op_le op_le (pv 1) (pe_callB call_len_seq (by rfl) T.len PySem.boot_len (pa_cons (pv 0) pa_nil)) (pv 2)))))), ?_⟩
    refine ⟨_, rfl, _, _, _, _, true, rfl, .ty "tuple", ty_sqt hx, kit_ty (by decide +kernel), true, rfl, iteT ⟨_, rfl, _, rfl, a, xs, rfl, .inr hx, lo, _, rfl, rfl, _, rfl, ite2 (fun e => ?_) (fun e => ?_)⟩⟩
    · refine ⟨_, rfl, _, hi, rfl, rfl, ?_⟩
      rw [e, Bool.true_and] at q
      exact q
    · rw [show decide (lo ≤ (xs.length : Int)) = false by simpa using e, Bool.false_and] at q
      exact q
end

/-! ### rows that can stand, as the law's own check has it -/
abbrev s_law_can_stand : Stmt := topS 33
theorem sc_law_can_stand : FnScope ["_law_thing", "_law_at", "_law_parts", "_law_word", "_law_k"] ["_law_thing", "_law_at"] (defScope s_law_can_stand) := ⟨rfl, rfl, rfl, by decide +kernel, rfl, by decide +kernel, by decide +kernel⟩
abbrev s_law_first_bad : Stmt := topS 34
theorem sc_law_first_bad : FnScope ["_law_thing", "_law_k"] ["_law_thing"] (defScope s_law_first_bad) := ⟨rfl, rfl, rfl, by decide +kernel, rfl, by decide +kernel, by decide +kernel⟩
section
variable {P : Program} {w : World} {K : PySem.W.Frag} {mg : Str → Option Value} {base : Heap}
def spCan (K : PySem.W.Frag) : Sp := fun vs H Q _ => ∃ (t : Addr) (r : Row) (k : Nat), vs = [.ref t, .int (k : Nat)] ∧ SqT K H t r.enc ∧ GoodRow k r ∧ ∀ H', Same H H' → Q (.bl true) H'
theorem ok_can {f : Addr} {fd : FuncData} (F : Fun K "_law_can_stand" "_law_can_stand" s_law_can_stand f fd) (T : Bi mg) (c_law_tuple : Cal P w K mg base 1 "_law_tuple" ["_law_thing", "_law_least", "_law_most"] (spLTup K)) (c_law_good_name : Cal P w K mg base 1 "_law_good_name" ["_law_thing"] spNameS)
    (c_law_number : Cal P w K mg base 1 "_law_number" ["_law_thing", "_law_low", "_law_high"] spLNum) (c_law_many_parts : Cal P w K mg base 1 "_law_many_parts" ["_law_word"] spParts) : FnOk P w K mg base CX0 2 f fd ["_law_thing", "_law_at"] (spCan K) := by
  refine F.ok sc_law_can_stand (fun vs H Q E h => ?_) (fun cdv A outer s H vs Q E hr h => ?_)
  · obtain ⟨t, r, k, rfl, _⟩ := h
    rfl
  · obtain ⟨t, r, k, rfl, ht, g, q⟩ := h
    refine ⟨_, (pss_cons (ps_if (PW.pt (pw_or (pt_not (pt_val (pe_call c_law_tuple.G hr (by rfl) c_law_tuple.g c_law_tuple.kp c_law_tuple.b .nil pass0 (pa_cons (pv 0) (pa_cons pe_int (pa_cons pe_int pa_nil)))))) (pw_or1 (pt_not (pt_val (pe_callB call_isi (by rfl) T.isinstance (by decide +kernel) (pa_cons (pe_ix ix_tup (pv 0) pe_int (fun _ _ => rfl)) (pa_cons (pe_bltn (v := .ty "str") (u := .type "str") (by rfl) T.str (by decide +kernel) rfl) pa_nil))))))))
        (pss_one (ps_ret pe_bl))
        pss_nil)
      (pss_cons (ps_if (pt_cmpR op_eq (pe_ix ix_tup (pv 0) pe_int (fun _ _ => rfl)) pe_str (nomark _))
        (pss_one (ps_ret (pe_and (pe_cmpR op_eq (pe_callB call_len_seq (by rfl) T.len PySem.boot_len (pa_cons (pv 0) pa_nil)) pe_int (nomark _)) (pe_one (pe_call c_law_good_name.G hr (by rfl) c_law_good_name.g c_law_good_name.kp c_law_good_name.b .nil pass0 (pa_cons (pe_ix ix_tup (pv 0) pe_int (fun _ _ => rfl)) pa_nil))))))
        pss_nil)
      (pss_cons (ps_set (i := 2) sc_law_can_stand.nd rfl (.inl rfl) (pe_slice sl_tupQ (pv 0) (po_some pe_int) po_none))
      (pss_cons (ps_set (i := 3) sc_law_can_stand.nd rfl (.inl rfl) (pe_ix ix_tup (pv 0) pe_int (fun _ _ => rfl)))
      (Evl.pss_cut (ps_if (PW.pt (pw_or (pt_cmpR op_eq (pv 3) pe_str (nomark _)) (pw_or1 (pt_cmpR op_eq (pv 3) pe_str (nomark _)))))
        (pss_cons (ps_if (PW.pt (pw_or (pt_cmpR op_eq (pe_callB call_len_seq (by rfl) T.len PySem.boot_len (pa_cons (pv 2) pa_nil)) pe_int (nomark _)) (pw_or1 (pt_not (pt_val (pe_callB call_isi (by rfl) T.isinstance (by decide +kernel) (pa_cons (pe_ix ix_tup (pv 2) pe_int (fun _ _ => rfl)) (pa_cons (pe_bltn (v := .ty "str") (u := .type "str") (by rfl) T.str (by decide +kernel) rfl) pa_nil))))))))
          (pss_one (ps_ret pe_bl))
          pss_nil)
        (pss_cons (ps_if (pt_cmpR op_notIn_seq (pe_ix ix_tup (pv 2) pe_int (fun _ _ => rfl)) (pe_lst (pa_cons pe_str (pa_cons pe_str (pa_cons pe_str (pa_cons pe_str (pa_cons pe_str pa_nil)))))) (by rfl))
          (pss_one (ps_ret pe_bl))
          pss_nil)
        (pss_cons (ps_set (i := 3) sc_law_can_stand.nd rfl (.inl rfl) (pe_ix ix_tup (pv 2) pe_int (fun _ _ => rfl)))
        (pss_one (ps_set (i := 2) sc_law_can_stand.nd rfl (.inl rfl) (pe_slice sl_tupQ (pv 2) (po_some pe_int) po_none))))))
        (pss_one (ps_if (pt_cmpR op_notIn_seq (pv 3) (pe_lst (pa_cons pe_str (pa_cons pe_str (pa_cons pe_str (pa_cons pe_str (pa_cons pe_str (pa_cons pe_str pa_nil))))))) (by rfl))
          (pss_one (ps_ret pe_bl))
          pss_nil)))
      (pss_one (ps_ret (pe_and (pe_cmpR op_eq (pe_callB call_len_seq (by rfl) T.len PySem.boot_len (pa_cons (pv 2) pa_nil)) (pe_call c_law_many_parts.G hr (by rfl) c_law_many_parts.g c_law_many_parts.kp c_law_many_parts.b .nil pass0 (pa_cons (pv 3) pa_nil)) (nomark _)) (pe_one (pe_cmpR (SAY.op_eqNil hr.units) (pe_lc (own := [("_law_k", 4)]) (g := gName 4) rfl sc_law_can_stand.nd (pi_tup (pv 2)) (blkOk_by (own := [("_law_k", 4)]) (N := ["_law_thing", "_law_at", "_law_parts", "_law_word", "_law_k"]) (sc := defScope s_law_can_stand) (by decide +kernel)) (fun _ _ _ _ _ => (pg_name (i := 4) sc_law_can_stand.nd rfl (.inl rfl))) (fun _ _ _ _ _ => (pts_one (pt_not (pt_val (pe_call c_law_number.G hr (by rfl) c_law_number.g c_law_number.kp c_law_number.b .nil pass0 (pa_cons (pv 4) (pa_cons pe_int (pa_cons (pv 1) pa_nil)))))))) (fun _ _ _ _ _ => (pv 4))) (pe_lst pa_nil) (nomark _))))))))))), ?_⟩
    have l4 := enc_le g
    have l1 : 1 ≤ r.enc.length := by cases r <;> exact Nat.le_add_left _ _
    obtain ⟨x, l0, hx⟩ : ∃ x l0, r.enc = .str x :: l0 := by
      cases r with
      | mark z => exact ⟨_, _, rfl⟩
      | word x ns => exact ⟨_, _, rfl⟩
      | run x f ns => exact ⟨_, _, rfl⟩
    have a0 : atI r.enc 0 = some (.str x) := at_of (j := 0) rfl (by rw [hx]; rfl)
    refine ⟨_, rfl, t, _, 1, 4, rfl, ht, _, rfl, ?_⟩
    rw [decide_eq_true (show (1 : Int) ≤ (r.enc.length : Int) by omega), decide_eq_true (show (r.enc.length : Int) ≤ 4 by omega)]
    refine iteF ⟨_, rfl, t, _, 0, .str x, rfl, rfl, ht, a0, _, _, _, _, true, rfl, .ty "str", .base (.str _), kit_ty (by decide +kernel), true, rfl, iteF ?_⟩
    refine ⟨_, rfl, t, _, 0, .str x, rfl, rfl, ht, a0, rfl, _, rfl, ?_⟩
    rw [dec_str]
    have rest : ∀ (p : Addr) (y : Str) (H' : Hp), Same H H' → SqT K H' p (r.nums.map V.int) → partsN y = r.nums.length → True := fun _ _ _ _ _ _ => trivial
    by_cases hm : ∃ z, r = .mark z
    · obtain ⟨z, rfl⟩ := hm
      cases hx
      rw [decide_eq_true rfl]
      refine iteT ⟨_, rfl, t, _, rfl, .inr ht, rfl, _, rfl, ?_⟩
      rw [dec_int, decide_eq_true (show (((Row.mark z).enc.length : Nat) : Int) = 2 from rfl)]
      refine iteT ⟨_, rfl, t, _, 1, .str z, rfl, rfl, ht, at_of (j := 1) rfl rfl, z, rfl, by have := (show GoodName z from g).hi; omega, fun H' s' => ?_⟩
      rw [nm_good.mpr g]
      exact q H' s'
    have nm : ∀ z, r ≠ .mark z := fun z e => hm ⟨z, e⟩
    have xm : x ≠ Str.ofString "mark" := by
      cases r with
      | mark z => exact absurd rfl (nm z)
      | word y ns =>
        cases hx
        exact (parts_no g.1).1
      | run y f ns =>
        cases hx
        exact whose_no g.1
    rw [decide_eq_false xm]
    refine iteF ⟨_, rfl, 1, rfl, t, _, rfl, ht, fun p H1 s1 hp => ?_⟩
    rw [show cutV r.enc (some 1) none = r.enc.drop 1 from cut_from (k := 1) l1, hx] at hp
    have hp : SqT K H1 p l0 := hp
    refine ⟨_, rfl, t, _, 0, .str x, rfl, rfl, ssqt s1 ht, a0, ?_⟩
    refine ⟨fun σ H' => ∃ (p2 : Addr) (y : Str), σ = [some (.ref t), some (.int (k : Nat)), some (.ref p2), some (.str y), none] ∧ Same H H' ∧ SqT K H' p2 (r.nums.map V.int) ∧ partsN y = r.nums.length, ?_, ?_⟩
    · refine ⟨_, rfl, rfl, _, rfl, ?_⟩
      rw [dec_str]
      cases r with
      | mark z => exact absurd rfl (nm z)
      | word y ns =>
        cases hx
        obtain ⟨n1, n2⟩ := parts_no g.1
        rw [decide_eq_false (by rintro rfl; exact n2 (by decide +kernel))]
        refine iteF ⟨_, rfl, rfl, _, rfl, ?_⟩
        rw [dec_str, decide_eq_false (by rintro rfl; exact n2 (by decide +kernel))]
        refine iteF ⟨_, rfl, by show 6 ≤ sizeLine; decide, fun L hL => ?_⟩
        have sL := same_upd (o := .lst (partsK.map V.str)) hL
        refine ⟨L, _, rfl, .inl (SqL.of (show (L2.upd H1 L (.lst (partsK.map V.str))) L = some (.lst (partsK.map V.str)) from upd_same)), rfl, flat_str _, _, rfl, ?_⟩
        rw [inV_str, decide_eq_true (p := x ∈ partsK) (lookup_mem (parts_lookup g.1).2)]
        exact iteF ⟨p, x, rfl, s1.trans sL, ssqt sL hp, parts_n (parts_lookup g.1).2⟩
      | run y f ns =>
        cases hx
        have hz2 : x = Str.ofString "some" ∨ x = Str.ofString "all" := by
          rcases List.mem_cons.mp g.1 with h | h
          · exact .inl h
          · exact .inr (List.mem_singleton.mp h)
        rcases hz2 with hz2 | hz2
        all_goals first
          | (rw [decide_eq_true hz2]
             refine iteT ⟨_, rfl, p, _, rfl, .inr hp, rfl, _, rfl, ?_⟩)
          | (rw [decide_eq_false (by rw [hz2]; decide +kernel)]
             refine iteF ⟨_, rfl, rfl, _, rfl, ?_⟩
             rw [dec_str, decide_eq_true hz2]
             refine iteT ⟨_, rfl, p, _, rfl, .inr hp, rfl, _, rfl, ?_⟩)
        all_goals
          rw [dec_int, decide_eq_false (by rw [List.length_cons]; omega)]
          refine iteF ⟨_, rfl, p, _, 0, .str f, rfl, rfl, hp, at_of (j := 0) rfl rfl, _, _, _, _, true, rfl, .ty "str", .base (.str _), kit_ty (by decide +kernel), true, rfl, iteF ?_⟩
          refine ⟨_, rfl, p, _, 0, .str f, rfl, rfl, hp, at_of (j := 0) rfl rfl, by show 5 ≤ sizeLine; decide, fun L hL => ?_⟩
          have sL := same_upd (o := .lst (formsK.map V.str)) hL
          refine ⟨L, _, rfl, .inl (SqL.of (show (L2.upd H1 L (.lst (formsK.map V.str))) L = some (.lst (formsK.map V.str)) from upd_same)), rfl, flat_str _, _, rfl, ?_⟩
          rw [inV_str, decide_eq_true (p := f ∈ formsK) (lookup_mem (forms_lookup g.2.1))]
          refine iteF ⟨_, rfl, p, _, 0, .str f, rfl, rfl, ssqt sL hp, at_of (j := 0) rfl rfl, _, rfl, 1, rfl, p, _, rfl, ssqt sL hp, fun p2 H2 s2 hp2 => ?_⟩
          rw [show cutV (V.str f :: ns.map V.int) (some 1) none = (V.str f :: ns.map V.int).drop 1 from cut_from (k := 1) (by rw [List.length_cons]; omega)] at hp2
          exact ⟨p2, f, rfl, (s1.trans sL).trans s2, hp2, forms_n (forms_lookup g.2.1)⟩
    rintro σ H2 ⟨p2, y, rfl, s2, hp2, hy⟩
    refine ⟨_, rfl, p2, _, rfl, .inr hp2, _, rfl, y, rfl, fun H3 s3 => ⟨rfl, _, rfl, ?_⟩⟩
    rw [dec_int, hy, List.length_map, decide_eq_true rfl]
    have hp3 := ssqt s3 hp2
    have nl := nums_le g
    refine iteT ⟨_, rfl, p2, rfl, ⟨_, hp3⟩, fun D hD => ?_⟩
    refine lc_tupS (fun j acc => acc = []) hp3 hD (by rw [List.length_map]; omega) rfl (fun _ => rfl) (fun j x H4 acc hj s4 p5 p4 N1 N2 n1 n2 => ?_) (fun H4 acc s4 hD4 hl p5 => ?_)
    · rw [List.getElem?_map] at hj
      obtain ⟨n, hn1, rfl⟩ := Option.map_eq_some_iff.mp hj
      obtain ⟨b1, b2⟩ := nums_in g n (List.mem_of_getElem? hn1)
      refine ⟨_, rfl, _, rfl, n, 0, k, rfl, _, rfl, ?_⟩
      rw [decide_eq_true b1, decide_eq_true b2]
      exact iteF (n2 H4 (Same.refl _) p5)
    · subst p5
      refine ⟨Nat.zero_le _, fun e he => ⟨D, e, [], rfl, rfl, SqL.of (same_upd he _ _ hD4), SqL.of upd_same, ?_⟩⟩
      exact q _ (((s2.trans s3).trans s4).trans (same_upd he))
def spFB (K : PySem.W.Frag) : Sp := fun vs H Q _ => ∃ (t : Addr) (rows : List Row), vs = [.ref t] ∧ SayAt K H t rows ∧ GoodSay rows ∧ ∀ H', Same H H' → Q .non H'
theorem ok_fb {f : Addr} {fd : FuncData} (F : Fun K "_law_first_bad" "_law_first_bad" s_law_first_bad f fd) (T : Bi mg) (c_law_tuple : Cal P w K mg base 1 "_law_tuple" ["_law_thing", "_law_least", "_law_most"] (spLTup K)) (c_law_can_stand : Cal P w K mg base 2 "_law_can_stand" ["_law_thing", "_law_at"] (spCan K)) : FnOk P w K mg base CX0 3 f fd ["_law_thing"] (spFB K) := by
  refine F.ok sc_law_first_bad (fun vs H Q E h => ?_) (fun cdv A outer s H vs Q E hr h => ?_)
  · obtain ⟨t, rows, rfl, _⟩ := h
    rfl
  · obtain ⟨t, rows, rfl, Sy, G, q⟩ := h
    obtain ⟨ra, hra, er⟩ := Sy.ex
    have lr := er.len
    have lo := G.lo
    have hi := G.hi
    refine ⟨_, (pss_cons (ps_if (pt_not (pt_val (pe_call c_law_tuple.G (hr.mono (by decide)) (by rfl) c_law_tuple.g c_law_tuple.kp c_law_tuple.b .nil pass0 (pa_cons (pv 0) (pa_cons pe_int (pa_cons pe_int pa_nil))))))
        (pss_one (ps_ret (pe_un un_neg pe_int)))
        pss_nil)
      (pss_cons (ps_for PassesOwn.never rfl (pi_range1 (by rfl) T.range (pa_cons (pe_callB call_len_seq (by rfl) T.len PySem.boot_len (pa_cons (pv 0) pa_nil)) pa_nil)) (pg_name (i := 1) sc_law_first_bad.nd rfl (.inl rfl))
        (pss_one (ps_if (pt_not (pt_val (pe_call c_law_can_stand.G hr (by rfl) c_law_can_stand.g c_law_can_stand.kp c_law_can_stand.b .nil pass0 (pa_cons (pe_ix ix_tup (pv 0) (pv 1) (fun _ _ => rfl)) (pa_cons (pv 1) pa_nil)))))
          (pss_one (ps_ret (pv 1)))
          pss_nil)))
      (pss_one (ps_ret pe_non)))), ?_⟩
    refine ⟨_, rfl, t, _, 1, 160, rfl, hra, _, rfl, ?_⟩
    rw [List.length_map, lr, decide_eq_true (show (1 : Int) ≤ (rows.length : Int) by omega), decide_eq_true (show (rows.length : Int) ≤ 160 by omega)]
    refine iteF ⟨_, rfl, t, _, rfl, .inr hra, _, rfl, by omega, by rw [List.length_map]; omega, for_range (lo := 0) (n := (((ra.map V.ref).length : Nat) : Int).toNat) (fun i σ H' => ∃ y, σ = [some (.ref t), y] ∧ Same H H') ⟨none, rfl, Same.refl _⟩ ?_ ?_⟩
    · rintro i σ H1 hi2 ⟨y, rfl, s1⟩
      have hi2 : i < rows.length := by
        have : i < (ra.map V.ref).length := hi2
        rw [List.length_map, lr] at this
        exact this
      obtain ⟨a, ha, xa⟩ := er.getx (List.getElem?_eq_getElem hi2)
      refine ⟨_, rfl, _, rfl, t, _, _, .ref a, rfl, rfl, ssqt s1 hra, by rw [Int.zero_add]; exact atI_nat (get_map ha), _, rfl, a, rows[i], i, by rw [Int.zero_add]; rfl, ssqt s1 xa, G.gr i _ (List.getElem?_eq_getElem hi2), fun H2 s2 => ⟨true, rfl, iteF ⟨_, rfl, s1.trans s2⟩⟩⟩
    · rintro σ H1 ⟨y, rfl, s1⟩
      exact q H1 s1
end


/-! ### the law -/
abbrev slaw : Stmt := topS 41
theorem sclaw : FnScope ["_law_script", "_law_pool_here", "_law_saying_here", "_law_text_here", "_law_found", "_law_spoken", "_law_row_here", "_law_k"] ["_law_script"] (defScope slaw) := ⟨rfl, rfl, rfl, by decide +kernel, rfl, by decide +kernel, by decide +kernel⟩
section
variable {P : Program} {w : World} {K : PySem.W.Frag} {mg : Str → Option Value} {base : Heap}
def kD : L2.Key → PyData
  | .inl i => .int i
  | .inr x => .str x
def rD (k : Ky) : PyData := .tuple (k.map kD)
theorem dpa_keys {H : Hp} : ∀ k : Ky, DpAll K H (k.map kV) (k.map kD)
  | [] => .nil
  | .inl i :: r => .cons (.int i) (dpa_keys r)
  | .inr x :: r => .cons (.str x) (dpa_keys r)
theorem dpa_rows {H : Hp} : ∀ {bs : List Addr} {rows : List Ky}, Each (fun a k => SqT K H a (k.map kV)) bs rows → DpAll K H (bs.map V.ref) (rows.map rD)
  | _, _, .nil => .nil
  | _, _, .cons h t => .cons (.tup h (dpa_keys _)) (dpa_rows t)
def KOk (k : Ky) : Prop := ∀ x, Sum.inr x ∈ k → PyData.canLay0 (.str x) = true
theorem can_keys : ∀ k : Ky, KOk k → PyData.canLayAll0 (k.map kD) = true
  | [], _ => rfl
  | .inl i :: r, h => can_keys r fun x hx => h x (List.mem_cons_of_mem _ hx)
  | .inr x :: r, h => by
    show (PyData.canLay0 (.str x) && PyData.canLayAll0 (r.map kD)) = true
    rw [h x List.mem_cons_self, can_keys r fun x hx => h x (List.mem_cons_of_mem _ hx)]
    rfl
theorem dep_keys : ∀ k : Ky, PyData.depthAll (k.map kD) = 0
  | [] => rfl
  | .inl i :: r => by
    show max (PyData.depth (.int i)) (PyData.depthAll (r.map kD)) = 0
    rw [dep_keys r]
    rfl
  | .inr x :: r => by
    show max (PyData.depth (.str x)) (PyData.depthAll (r.map kD)) = 0
    rw [dep_keys r]
    rfl
theorem dep_row (k : Ky) : PyData.depth (rD k) = 1 := by
  show PyData.depth (.tuple (k.map kD)) = 1
  rw [show PyData.depth (.tuple (k.map kD)) = PyData.depthAll (k.map kD) + 1 by first | rfl | (unfold PyData.depth; omega), dep_keys]
theorem shaped_row {k : Ky} (h : KOk k) : SeqAt.shaped (rD k) = true := by
  unfold SeqAt.shaped
  rw [dep_row, show PyData.canLay0 (rD k) = true from can_keys k h]
  rfl
theorem can_rows : ∀ rows : List Ky, (∀ k ∈ rows, KOk k) → PyData.canLayAll0 (rows.map rD) = true
  | [], _ => rfl
  | k :: r, h => by
    show (PyData.canLay0 (rD k) && PyData.canLayAll0 (r.map rD)) = true
    rw [show PyData.canLay0 (rD k) = true from can_keys k (h k List.mem_cons_self), can_rows r fun x hx => h x (List.mem_cons_of_mem _ hx)]
    rfl
theorem dep_rows : ∀ rows : List Ky, PyData.depthAll (rows.map rD) ≤ 1
  | [] => Nat.zero_le _
  | k :: r => by
    show max (PyData.depth (rD k)) (PyData.depthAll (r.map rD)) ≤ 1
    rw [dep_row]
    have := dep_rows r
    omega
theorem shaped_rows {rows : List Ky} (h : ∀ k ∈ rows, KOk k) : SeqAt.shaped (.tuple (rows.map rD)) = true := by
  unfold SeqAt.shaped
  have := dep_rows rows
  rw [show PyData.canLay0 (.tuple (rows.map rD)) = true from can_rows rows h, show PyData.depth (.tuple (rows.map rD)) = PyData.depthAll (rows.map rD) + 1 by first | rfl | (unfold PyData.depth; omega)]
  simp
  omega
theorem eqv_keys : ∀ a b : Ky, PyData.eqvAll (a.map kD) (b.map kD) = true → a = b
  | [], [], _ => rfl
  | [], _ :: _, h => by cases h
  | _ :: _, [], h => by cases h
  | .inl i :: a, .inl j :: b, h => by
    have h : ((i == j) && PyData.eqvAll (a.map kD) (b.map kD)) = true := h
    rw [Bool.and_eq_true] at h
    rw [eq_of_beq h.1, eqv_keys a b h.2]
  | .inr x :: a, .inr y :: b, h => by
    have h : ((x == y) && PyData.eqvAll (a.map kD) (b.map kD)) = true := h
    rw [Bool.and_eq_true] at h
    rw [eq_of_beq h.1, eqv_keys a b h.2]
  | .inl i :: a, .inr y :: b, h => by
    have h : (false && PyData.eqvAll (a.map kD) (b.map kD)) = true := h
    cases h
  | .inr x :: a, .inl j :: b, h => by
    have h : (false && PyData.eqvAll (a.map kD) (b.map kD)) = true := h
    cases h
theorem no_eqv {rows : List Ky} {k : Ky} (h : k ∉ rows) : ((rows.map rD).any fun z => PyData.eqv z (rD k)) = false := by
  rw [List.any_map, List.any_eq_false]
  intro x hx e
  have e : PyData.eqvAll (x.map kD) (k.map kD) = true := e
  exact h (by rw [← eqv_keys _ _ e]; exact hx)
theorem word_lay {x : Str} (h : x ∈ wordsL) : PyData.canLay0 (.str x) = true := by
  have : ∀ y ∈ wordsL, PyData.canLay0 (.str y) = true := by decide +kernel
  exact this x h
theorem name_lay {z : Str} (g : GoodName z) : PyData.canLay0 (.str z) = true := by
  show z.cps.all (· < 0x110000) = true
  rw [← Array.all_toList, List.all_eq_true]
  intro c hc
  have := g.al c hc
  rw [letters_eq, List.mem_range'] at this
  exact decide_eq_true (by omega)
theorem row_lay {r : Row} {k : Nat} (g : GoodRow k r) : KOk (encK r) := by
  have pw : ∀ p ∈ partsL, p.1 ∈ wordsL := by decide +kernel
  have fw : ∀ p ∈ formsL, p.1 ∈ wordsL := by decide +kernel
  have ww : ∀ p ∈ whoseL, p ∈ wordsL := by decide +kernel
  intro x hx
  cases r with
  | mark z =>
    rcases List.mem_cons.mp hx with e | hx
    · rw [Sum.inr.inj e]
      decide +kernel
    · rw [Sum.inr.inj (List.mem_singleton.mp hx)]
      exact name_lay g
  | word y ns =>
    rcases List.mem_cons.mp hx with e | hx
    · rw [Sum.inr.inj e]
      exact word_lay (pw _ g.1)
    · obtain ⟨n, _, e⟩ := List.mem_map.mp hx
      cases e
  | run y f ns =>
    rcases List.mem_cons.mp hx with e | hx
    · rw [Sum.inr.inj e]
      exact word_lay (ww _ g.1)
    · rcases List.mem_cons.mp hx with e | hx
      · rw [Sum.inr.inj e]
        exact word_lay (fw _ g.2.1)
      · obtain ⟨n, _, e⟩ := List.mem_map.mp hx
        cases e
theorem good_zero {k : Nat} {r : Row} (g : GoodRow k r) (h : r.nums = []) : GoodRow 0 r := by
  cases r with
  | mark z => exact g
  | word x ns =>
    have h : ns = [] := h
    subst h
    exact ⟨g.1, fun _ h => absurd h List.not_mem_nil⟩
  | run x f ns =>
    have h : ns = [] := h
    subst h
    exact ⟨g.1, g.2.1, fun _ h => absurd h List.not_mem_nil⟩
theorem good_single {r : Row} (g : GoodRow 0 r) : GoodSay [r] := ⟨Nat.le_refl _, by show 1 ≤ 160; decide, fun i x h => by
  cases i with
  | zero =>
    cases h
    exact g
  | succ i => cases h⟩
theorem w_single {r : Row} (h : r.nums = []) (g : GoodRow 0 r) : (Fx.w [r] ([r].length - 1)).length ≤ 400 := by
  rw [w_eq (rows := [r]) (i := [r].length - 1) rfl g, h]
  have := words_le r
  rw [List.length_append]
  show r.words.length + 0 ≤ 400
  omega
theorem each_enc {H : Hp} : ∀ {bs : List Addr} {fr : List Row}, Each (fun a k => SqT K H a (k.map kV)) bs (fr.map encK) → Each (fun a r => SqT K H a r.enc) bs fr
  | _, [], h => by
    cases h
    exact .nil
  | _, r :: fr, h => by
    cases h with
    | cons h t => exact .cons (by rw [← encK_enc]; exact h) (each_enc t)
theorem w_free {rows : List Row} (G : GoodSay rows) : ∀ n i : Nat, i < n → ∀ x ∈ Fx.w rows i, 32 ∉ x.cps.toList := by
  have pw : ∀ p ∈ partsL, 32 ∉ p.1.cps.toList := by decide +kernel
  have fw : ∀ p ∈ formsL, 32 ∉ p.1.cps.toList := by decide +kernel
  have ww : ∀ p ∈ whoseL, 32 ∉ p.cps.toList := by decide +kernel
  have nw : ∀ {z : Str}, GoodName z → 32 ∉ z.cps.toList := fun g h => by
    have := g.al _ h
    rw [letters_eq, List.mem_range'] at this
    omega
  intro n
  induction n with
  | zero => intro i h; omega
  | succ n ih =>
    intro i hi x hx
    cases e : rows[i]? with
    | none =>
      unfold Fx.w at hx
      rw [List.getD_eq_getElem?_getD, List.getElem?_eq_none (by rw [wAll_len]; exact List.getElem?_eq_none_iff.mp e)] at hx
      cases hx
    | some r =>
      have g := G.gr i r e
      rw [w_eq e g] at hx
      rcases List.mem_append.mp hx with hx | hx
      · cases r with
        | mark z =>
          rw [List.mem_singleton.mp hx]
          exact nw g
        | word y ns =>
          rw [List.mem_singleton.mp hx]
          exact pw _ g.1
        | run y f ns =>
          rcases List.mem_cons.mp hx with rfl | hx
          · exact ww _ g.1
          · rw [List.mem_singleton.mp hx]
            exact fw _ g.2.1
      · obtain ⟨L, hL, hx⟩ := List.mem_flatten.mp hx
        obtain ⟨m, hm, rfl⟩ := List.mem_map.mp hL
        have b := nums_in g m hm
        exact ih m.toNat (by omega) x hx
def nyw : List Str := [Str.ofString "not", Str.ofString "yes"]
def notYes : List Ky := [[Sum.inr (Str.ofString "yes")], [Sum.inr (Str.ofString "not"), Sum.inl (0 : Int)]]
theorem not_yes : readP (Txt.split (Str.ofString "not yes") sp1) = some notYes := by
  rw [show Txt.split (Str.ofString "not yes") sp1 = nyw by decide +kernel]
  have h1 : headP nyw 1 = some ([Str.ofString "yes"], 0, 1) := by decide +kernel
  have h0 : headP nyw 0 = some ([Str.ofString "not"], 1, 0) := by decide +kernel
  unfold readP
  rw [show nyw.length = 1 + 1 from rfl, finS h1 (by decide) (by decide), finS h0 (by decide +kernel) (by decide), fin0]
  decide +kernel
theorem fin_len {ws : List Str} : ∀ (n m : Nat) (rows : List Ky) (st : List Int), m ≤ n → (∀ k ∈ rows, k.length ≤ 4) → ∀ rows' st', fin ws m rows st = some (rows', st') → ∀ k ∈ rows', k.length ≤ 4
  | n, 0, rows, st, _, h, rows', st', e => by
    rw [fin0] at e
    cases e
    exact h
  | 0, m + 1, _, _, hm, _, _, _, _ => absurd hm (by omega)
  | n + 1, m + 1, rows, st, hm, h, rows', st', e => by
    cases eh : headP ws m with
    | none =>
      rw [finN eh] at e
      cases e
    | some x =>
      obtain ⟨hd, q, r⟩ := x
      obtain ⟨h0, hs, rfl, lh, n2, hr⟩ := head_cases eh
      have hrm : r ≤ m := by omega
      by_cases hq : st.length < q
      · rw [finF eh hq] at e
        cases e
      · rw [finS eh (by omega) hrm] at e
        refine fin_len n r _ _ (by omega) ?_ rows' st' e
        intro k hk
        unfold rowsR at hk
        split at hk
        · exact h k hk
        · rcases List.mem_append.mp hk with hk | hk
          · exact h k hk
          · rw [List.mem_singleton.mp hk]
            unfold keyR
            rw [List.length_append, List.length_map, List.length_map, List.length_take, List.length_cons]
            omega
theorem read_len {ws : List Str} {rows : List Ky} (e : readP ws = some rows) : rows.length ≤ 160 ∧ ∀ k ∈ rows, k.length ≤ 4 := by
  unfold readP at e
  split at e
  · cases e
  · cases ef : fin ws ws.length [] [] with
    | none =>
      rw [ef] at e
      cases e
    | some x =>
      obtain ⟨r, st⟩ := x
      rw [ef] at e
      dsimp only at e
      split at e
      · rename_i h
        cases e
        exact ⟨h.2, fin_len ws.length _ _ _ (Nat.le_refl _) (fun _ h => absurd h List.not_mem_nil) _ _ ef⟩
      · cases e
theorem each_take {α : Type} {R : Addr → α → Prop} : ∀ {as : List Addr} {xs : List α}, Each R as xs → ∀ k, Each R (as.take k) (xs.take k)
  | _, _, _, 0 => by
    rw [List.take_zero, List.take_zero]
    exact .nil
  | _, _, .nil, k + 1 => .nil
  | _, _, .cons h t, k + 1 => .cons h (each_take t k)
theorem isn_non : decide (V.non = V.non) = true := decide_eq_true rfl
def spLaw (K : PySem.W.Frag) : Sp := fun vs H Q _ => ∃ (l : Addr) (ns : List Int), vs = [.ref l] ∧ SqL K H l (ns.map V.int) ∧ ns.length ≤ 63 ∧ ∀ H', Q (.bl true) H'
theorem ok_law {f : Addr} {fd : FuncData} (F : Fun K "law" "law" slaw f fd) (T : Bi mg) (S : XOne K mg "TooGreat") (S2 : XOne K mg "NoText") (c_law_pool : Cal P w K mg base 1 "_law_pool" ["_law_script"] (spPool K))
    (c_law_names : Cal P w K mg base 3 "_law_names" ["_law_pool_here", "_law_many"] spLNames) (c_law_saying : Cal P w K mg base 3 "_law_saying" ["_law_pool_here", "_law_names_here", "_law_most"] (spSaying K)) (c_law_row_numbers : Cal P w K mg base 1 "_law_row_numbers" ["_law_row_here"] (spRNums K)) (c_law_counts : Cal P w K mg base 2 "_law_counts" ["_law_saying_here"] (spWin K))
    (c_law_text : Cal P w K mg base 3 "_law_text" ["_law_saying_here"] (spLText K)) (ctext_of : CalX P w K mg base 3 "text_of" ["saying"] (spText K S.R)) (c_law_first_bad : Cal P w K mg base 3 "_law_first_bad" ["_law_thing"] (spFB K))
    (c_law_read : Cal P w K mg base 3 "_law_read" ["_law_text_here"] (spLRead K)) (cread : CalX P w K mg base 3 "read" ["text"] (spRead K S2.R)) (c_law_same : Cal P w K mg base 4 "_law_same" ["_law_found", "_law_due"] (spSW K)) :
    FnOk P w K mg base CX0 5 f fd ["_law_script"] (spLaw K) := by
  refine F.ok sclaw (fun vs H Q E h => ?_) (fun cdv A outer s H vs Q E hr h => ?_)
  · obtain ⟨l, ns, rfl, _⟩ := h
    rfl
  · obtain ⟨l, ns, rfl, hS, hlen, q⟩ := h
    refine ⟨_, (pss_cons (ps_set (i := 1) sclaw.nd rfl (.inl rfl) (pe_call c_law_pool.G (hr.mono (by decide)) (by rfl) c_law_pool.g c_law_pool.kp c_law_pool.b .nil pass0 (pa_cons (pv 0) pa_nil)))
      (pss_cons (ps_set (i := 2) sclaw.nd rfl (.inl rfl) (pe_call c_law_saying.G (hr.mono (by decide)) (by rfl) c_law_saying.g c_law_saying.kp c_law_saying.b .nil pass0 (pa_cons (pv 1) (pa_cons (pe_call c_law_names.G (hr.mono (by decide)) (by rfl) c_law_names.g c_law_names.kp c_law_names.b .nil pass0 (pa_cons (pv 1) (pa_cons pe_int pa_nil))) (pa_cons pe_int pa_nil)))))
      (Evl.pss_cut (ps_if (pt_cmpR op_gt (pe_ix ix_list (pe_call c_law_counts.G (hr.mono (by decide)) (by rfl) c_law_counts.g c_law_counts.kp c_law_counts.b .nil pass0 (pa_cons (pv 2) pa_nil)) (pe_un un_neg pe_int) (fun _ _ => rfl)) pe_int (nomark _))
        (pss_cons (ps_set (i := 2) sclaw.nd rfl (.inl rfl) (pe_tup (pa_cons (pe_ix ix_tup (pv 2) (pe_un un_neg pe_int) (fun _ _ => rfl)) pa_nil)))
        (pss_one (ps_if (pt_cmpR op_gt (pe_callB call_len_seq (by rfl) T.len PySem.boot_len (pa_cons (pe_call c_law_row_numbers.G (hr.mono (by decide)) (by rfl) c_law_row_numbers.g c_law_row_numbers.kp c_law_row_numbers.b .nil pass0 (pa_cons (pe_ix ix_tup (pv 2) pe_int (fun _ _ => rfl)) pa_nil)) pa_nil)) pe_int (nomark _))
          (pss_one (ps_set (i := 2) sclaw.nd rfl (.inl rfl) (pe_tup (pa_cons (pe_tup (pa_cons pe_str pa_nil)) pa_nil))))
          pss_nil)))
        pss_nil)
      (pss_cons (ps_set (i := 3) sclaw.nd rfl (.inl rfl) (pe_call c_law_text.G (hr.mono (by decide)) (by rfl) c_law_text.g c_law_text.kp c_law_text.b .nil pass0 (pa_cons (pv 2) pa_nil)))
      (pss_cons (ps_set (i := 4) sclaw.nd rfl (.inl rfl) (pe_callS cread.G (hr.mono (by decide)) (by rfl) cread.g cread.kp cread.b (fun σ => passAt takes0 σ) (pa_cons (pv 3) pa_nil)))
      (Evl.pss_cut (ps_if (PW.pt (pw_or (pt_not (pt_val (pe_call c_law_same.G hr (by rfl) c_law_same.g c_law_same.kp c_law_same.b .nil pass0 (pa_cons (pe_callS cread.G (hr.mono (by decide)) (by rfl) cread.g cread.kp cread.b (fun σ => passAt takes0 σ) (pa_cons pe_str pa_nil)) (pa_cons (pe_tup (pa_cons (pe_tup (pa_cons pe_str pa_nil)) (pa_cons (pe_tup (pa_cons pe_str (pa_cons pe_int pa_nil))) pa_nil))) pa_nil))))) (pw_or1 (pt_cmpR op_notN (pe_call c_law_first_bad.G (hr.mono (by decide)) (by rfl) c_law_first_bad.g c_law_first_bad.kp c_law_first_bad.b .nil pass0 (pa_cons (pv 4) pa_nil)) pe_non (nomark _)))))
        (pss_one (ps_ret pe_bl))
        pss_nil)
      (pss_cons (ps_set (i := 5) sclaw.nd rfl (.inl rfl) (pe_lst pa_nil))
      (pss_cons (ps_for PassesOwn.never rfl (pi_tup (pv 4)) (pg_name (i := 6) sclaw.nd rfl (.inl rfl))
        (pss_one (ps_set (i := 5) sclaw.nd rfl (.inl rfl) (pe_op op_cat (pv 5) (pe_call c_law_row_numbers.G (hr.mono (by decide)) (by rfl) c_law_row_numbers.g c_law_row_numbers.kp c_law_row_numbers.b .nil pass0 (pa_cons (pv 6) pa_nil))))))
      (pss_cons (ps_for PassesOwn.never rfl (pi_range1 (by rfl) T.range (pa_cons (pe_callB call_len_seq (by rfl) T.len PySem.boot_len (pa_cons (pv 4) pa_nil)) pa_nil)) (pg_name (i := 7) sclaw.nd rfl (.inl rfl))
        (pss_one (ps_if (PW.pt (pw_or (pt_cmpR (RPL.op_inT (RPL.un65 hr)) (pe_ix ix_tup (pv 4) (pv 7) (fun _ _ => rfl)) (pe_slice sl_tupQ (pv 4) po_none (po_some (pv 7))) (by rfl)) (pw_or1 (pt_cmpR op_ne (pe_cmpR op_in_seq (pv 7) (pv 5) (by rfl)) (pe_cmpR op_lt (pv 7) (pe_op op_sub (pe_callB call_len_seq (by rfl) T.len PySem.boot_len (pa_cons (pv 4) pa_nil)) pe_int) (nomark _)) (nomark _)))))
          (pss_one (ps_ret pe_bl))
          pss_nil)))
      (Evl.pss_cut (ps_if (PW.pt (pw_or (pt_not (pt_val (pe_call c_law_same.G hr (by rfl) c_law_same.g c_law_same.kp c_law_same.b .nil pass0 (pa_cons (pv 4) (pa_cons (pe_call c_law_read.G (hr.mono (by decide)) (by rfl) c_law_read.g c_law_read.kp c_law_read.b .nil pass0 (pa_cons (pv 3) pa_nil)) pa_nil))))) (pw_or1 (pt_not (pt_val (pe_call c_law_same.G hr (by rfl) c_law_same.g c_law_same.kp c_law_same.b .nil pass0 (pa_cons (pe_callS ctext_of.G (hr.mono (by decide)) (by rfl) ctext_of.g ctext_of.kp ctext_of.b (fun σ => passAt takes0 σ) (pa_cons (pv 4) pa_nil)) (pa_cons (pv 3) pa_nil))))))))
        (pss_one (ps_ret pe_bl))
        pss_nil)
      (pss_one (ps_ret (pe_call c_law_same.G hr (by rfl) c_law_same.g c_law_same.kp c_law_same.b .nil pass0 (pa_cons (pe_callS cread.G (hr.mono (by decide)) (by rfl) cread.g cread.kp cread.b (fun σ => passAt takes0 σ) (pa_cons (pv 3) pa_nil)) (pa_cons (pv 4) pa_nil))))))))))))))), ?_⟩
    refine ⟨_, rfl, l, ns, rfl, hS, hlen, fun H1 PL s1 P1 => ?_⟩
    refine ⟨_, rfl, _, rfl, PL, 0, 3, rfl, P1, by decide, by decide, fun H5 ln zs P5 _ hl5 ol5 nz gz lz => ?_⟩
    have lz : zs.length = 3 := lz
    refine ⟨PL, _, ln, zs, 14, rfl, P5, by omega, hl5, ol5, gz, by omega, by decide, by decide, fun H6 t6 rows P6 _ Sy Gy => ?_⟩
    obtain ⟨ra, hra, er⟩ := Sy.ex
    have lo := Gy.lo
    have hi := Gy.hi
    refine ⟨fun σ' H' => ∃ (t : Addr) (rows : List Row), σ' = [some (.ref l), some (.ref PL.p), some (.ref t), none, none, none, none, none] ∧ SayAt K H' t rows ∧ GoodSay rows ∧ (Fx.w rows (rows.length - 1)).length ≤ 400, ?_, ?_⟩
    · refine ⟨_, rfl, t6, rows, rfl, Sy, Gy, fun H7 cl s7 hcl => ⟨_, rfl, cl, _, _, _, rfl, rfl, hcl, atI_lastD (by rw [wAll_len]; exact lo), _, _, rfl, rfl, _, rfl, ?_⟩⟩
      rw [wAll_len, show (wAll rows).getD (rows.length - 1) [] = Fx.w rows (rows.length - 1) from rfl]
      by_cases hb : (Fx.w rows (rows.length - 1)).length ≤ 400
      · rw [decide_eq_false (by omega)]
        exact iteF ⟨t6, rows, rfl, Sy.imm (simm s7), Gy, hb⟩
      rw [decide_eq_true (by omega)]
      obtain ⟨ra', a, rfl⟩ : ∃ ra' a, ra = ra' ++ [a] := by
        rcases nil_or_snoc ra with rfl | h
        · have := er.len
          simp at this
          omega
        · exact h
      have lra := er.len
      have ia : (ra' ++ [a])[ra'.length]? = some a := by
        rw [List.getElem?_append_right (Nat.le_refl _), Nat.sub_self]
        rfl
      obtain ⟨r, hr1, hr2⟩ := er.get ia
      have gr := Gy.gr _ r hr1
      have hra7 := ssqt s7 hra
      refine iteT ⟨_, rfl, _, rfl, t6, _, _, .ref a, rfl, rfl, hra7, by rw [List.map_append]; exact atI_last _ _, by show 1 ≤ sizeLine; decide, fun t1 h1 => ?_⟩
      have m1 := same_upd (o := .tup [.ref a]) h1
      have x1 : SqT K (L2.upd H7 t1 (.tup [.ref a])) a r.enc := ssqt (s7.trans m1) hr2
      refine ⟨_, rfl, t1, _, 0, .ref a, rfl, rfl, SqT.of upd_same, at_of (j := 0) rfl rfl, a, r, _, rfl, x1, gr, fun H8 p s8 hp => ⟨p, _, rfl, .inl (SqL.of hp), _, _, rfl, rfl, _, rfl, ?_⟩⟩
      rw [List.length_map]
      by_cases hn : r.nums = []
      · rw [hn, decide_eq_false (by decide)]
        have g0 := good_zero gr hn
        exact iteF ⟨t1, [r], rfl, ⟨[a], ssqt s8 (SqT.of upd_same), .cons (ssqt s8 x1) .nil⟩, good_single g0, w_single hn g0⟩
      · have : 0 < r.nums.length := List.length_pos_iff.mpr hn
        rw [decide_eq_true (by omega)]
        refine iteT ⟨by show 1 ≤ sizeLine; decide, fun t2 h2 => ⟨by show 1 ≤ sizeLine; decide, fun t3 h3 => ?_⟩⟩
        have m3 := same_upd (o := .tup [.ref t2]) h3
        have gy : GoodRow 0 (.word (Str.ofString "yes") []) := ⟨by decide +kernel, fun _ h => absurd h List.not_mem_nil⟩
        exact ⟨t3, [.word (Str.ofString "yes") []], rfl, ⟨[t2], SqT.of upd_same, .cons (SqT.of (m3 _ _ upd_same)) .nil⟩, good_single gy, w_single rfl gy⟩
    rintro σ H7 ⟨t, rows, rfl, Sy, Gy, hb⟩
    have lo := Gy.lo
    have hi := Gy.hi
    have eT : textV rows = .str (jn (Fx.w rows (rows.length - 1))) := by
      unfold textV
      rw [if_pos hb]
    have esp : Txt.split (jn (Fx.w rows (rows.length - 1))) sp1 = Fx.w rows (rows.length - 1) := split_jn (by
      have := w_ne (rows := rows) (List.getElem?_eq_getElem (show rows.length - 1 < rows.length by omega))
      intro z
      rw [z] at this
      simp at this) (w_free Gy rows.length _ (by omega))
    have l36 := jn_len _ (w_short Gy.gr rows.length (rows.length - 1) (by omega))
    obtain ⟨fnd, ef⟩ := read_good Gy hb
    refine ⟨_, rfl, t, rows, rfl, Sy, Gy, fun H8 s8 => ?_⟩
    rw [eT]
    obtain ⟨fr, TD⟩ := read_told ef
    have hbx := read_len ef
    rw [← esp] at ef
    have etx : jn (Fx.w fr (fr.length - 1)) = jn (Fx.w rows (rows.length - 1)) := by rw [TD.tx]
    have ebx : (Fx.w fr (fr.length - 1)).length ≤ 400 := by rw [TD.tx]; exact hb
    have l37 : (jn (Fx.w rows (rows.length - 1))).length ≤ 3600 := by omega
    generalize jn (Fx.w rows (rows.length - 1)) = txt at ef etx l37
    have G := TD.good
    have lf : fnd.length = fr.length := by rw [TD.eq, List.length_map]
    refine ⟨_, rfl, _, rfl, .inl ⟨txt, rfl, by omega, fun fnd2 e H9 c s9 R => ?_, fun e => absurd ef (by rw [e]; intro k; cases k)⟩⟩
    rw [ef] at e
    cases e
    obtain ⟨bs, hc, eb⟩ := R.ex
    have er : Each (fun a r => SqT K H9 a r.enc) bs fr := each_enc (by rw [← TD.eq]; exact eb)
    have Sf : SayAt K H9 c fr := ⟨bs, hc, er⟩
    have lb : bs.length = fr.length := er.len
    have lok := G.lo
    have hok := G.hi
    refine ⟨fun σ' H' => σ' = [some (.ref l), some (.ref PL.p), some (.ref t), some (.str txt), some (.ref c), none, none, none] ∧ Same H9 H', ?_, ?_⟩
    · refine ⟨_, rfl, .inl ⟨Str.ofString "not yes", rfl, by decide +kernel, fun rows e H14 d s14 R2 => ?_, fun e => absurd e (by rw [not_yes]; intro k; cases k)⟩⟩
      rw [not_yes] at e
      cases e
      refine ⟨by show 1 ≤ sizeLine; decide, fun t1 h1 => ⟨by show 2 ≤ sizeLine; decide, fun t2 h2 => ⟨by show 2 ≤ sizeLine; decide, fun t3 h3 => ?_⟩⟩⟩
      have z1 := same_upd (o := .tup (([Sum.inr (Str.ofString "yes")] : Ky).map kV)) h1
      have z2 := same_upd (o := .tup (([Sum.inr (Str.ofString "not"), Sum.inl (0 : Int)] : Ky).map kV)) h2
      have z3 := same_upd (o := .tup ([t1, t2].map V.ref)) h3
      have z13 := (z1.trans z2).trans z3
      refine ⟨.inr (.inr ⟨d, t3, notYes, rfl, R2.imm (simm z13), ⟨[t1, t2], SqT.of upd_same, .cons (SqT.of (z3 _ _ (z2 _ _ upd_same))) (.cons (SqT.of (z3 _ _ upd_same)) .nil)⟩, by decide, by decide +kernel⟩), true, rfl, iteF ?_⟩
      refine ⟨_, rfl, c, fr, rfl, Sf.imm (simm (s14.trans z13)), G, fun H15 s15 => ⟨rfl, _, rfl, ?_⟩⟩
      rw [isn_non]
      exact iteF ⟨rfl, (s14.trans z13).trans s15⟩
    rintro σ H10 ⟨rfl, s10⟩
    refine ⟨Nat.zero_le _, fun sl0 hsl0 => ?_⟩
    have m0 := same_upd (o := .lst []) hsl0
    have s11 := s10.trans m0
    refine ⟨_, rfl, c, rfl, ⟨_, ssqt s11 hc⟩, for_tup (K := K) (a := c) (xs := bs.map V.ref) (fun i σ H' => ∃ (sl : Addr) (y6 : Option V), σ = [some (.ref l), some (.ref PL.p), some (.ref t), some (.str txt), some (.ref c), some (.ref sl), y6, none] ∧ Same H9 H' ∧ H' sl = some (.lst ((((fr.take i).map Row.nums).flatten).map V.int))) ⟨sl0, none, rfl, s11, upd_same⟩ (fun i σ H' _ ⟨_, _, _, s, _⟩ => ssqt s hc) ?_ ?_⟩
    · rintro i x σ H12 hix ⟨sl, y6, rfl, s12, hsl⟩
      obtain ⟨a, ha, rfl⟩ := ref_get hix
      obtain ⟨r, hr1, hr2⟩ := er.get ha
      have gr := G.gr i r hr1
      refine ⟨_, rfl, _, rfl, a, r, i, rfl, ssqt s12 hr2, gr, fun H13 p s13 hp => ?_⟩
      have hsl13 := s13 _ _ hsl
      have nsum : ∀ L : List Row, (∀ x ∈ L, x.nums.length ≤ 2) → ((L.map Row.nums).flatten).length ≤ 2 * L.length := by
        intro L
        induction L with
        | nil => intro _; exact Nat.zero_le _
        | cons x L ih =>
          intro h
          have h1 := h x List.mem_cons_self
          have h2 := ih fun y hy => h y (List.mem_cons_of_mem _ hy)
          rw [List.map_cons, List.flatten_cons, List.length_append, List.length_cons]
          omega
      have n1 := nsum (fr.take i) (fun x hx => by
        obtain ⟨j, hj⟩ := List.mem_iff_getElem?.mp (List.mem_of_mem_take hx)
        exact nums_le (G.gr j x hj))
      have n2 := nums_le gr
      rw [List.length_take] at n1
      refine ⟨sl, p, _, _, rfl, rfl, hsl13, hp, szOk (by rw [List.length_map, List.length_map]; omega), fun sl2 hsl2 => ?_⟩
      refine ⟨sl2, _, rfl, (s12.trans s13).trans (same_upd hsl2), ?_⟩
      have e1 : ((fr.take (i + 1)).map Row.nums).flatten = ((fr.take i).map Row.nums).flatten ++ r.nums := by
        rw [List.take_add_one, hr1]
        simp
      rw [upd_same, e1, List.map_append]
    rintro σ H12 ⟨sl, y6, rfl, s12, hsl⟩
    rw [List.length_map, lb, List.take_length] at hsl
    have hc12 := ssqt s12 hc
    refine ⟨_, rfl, c, _, rfl, .inr hc12, _, rfl, by omega, by rw [List.length_map]; omega, for_range (lo := 0) (n := (((bs.map V.ref).length : Nat) : Int).toNat) (fun i σ H' => ∃ y7, σ = [some (.ref l), some (.ref PL.p), some (.ref t), some (.str txt), some (.ref c), some (.ref sl), y6, y7] ∧ Same H12 H') ⟨none, rfl, Same.refl _⟩ ?_ ?_⟩
    · rintro i σ H13 hi2 ⟨y7, rfl, s13⟩
      have hi2 : i < fr.length := by
        have : i < (bs.map V.ref).length := hi2
        rw [List.length_map, lb] at this
        exact this
      have hk : fnd[i]? = some (fnd[i]'(by omega)) := List.getElem?_eq_getElem (by omega)
      generalize fnd[i]'(by omega) = key at hk
      obtain ⟨b, hb1, hb2⟩ := eb.getx hk
      have s913 := s12.trans s13
      have hc13 := ssqt s913 hc
      have kok : ∀ k ∈ fnd, KOk k := fun k hk => by
        rw [TD.eq] at hk
        obtain ⟨r, hr, rfl⟩ := List.mem_map.mp hk
        obtain ⟨j, hj⟩ := List.mem_iff_getElem?.mp hr
        exact row_lay (G.gr j r hj)
      refine ⟨_, rfl, _, rfl, c, _, _, .ref b, rfl, rfl, hc13, by rw [Int.zero_add]; exact atI_nat (get_map hb1), _, rfl, _, rfl, (i : Nat), by rw [Int.zero_add], c, _, rfl, hc13, fun p H14 s14 hp => ?_⟩
      have hp2 : SqT K H14 p ((bs.take i).map V.ref) := by rw [cut_to, ← List.map_take] at hp; exact hp
      have s914 := s913.trans s14
      have nin : key ∉ fnd.take i := fun hin => by
        obtain ⟨j, hj⟩ := List.mem_iff_getElem?.mp hin
        have hji : j < i := by
          have := (List.getElem?_eq_some_iff.mp hj).1
          rw [List.length_take] at this
          omega
        rw [List.getElem?_take_of_lt hji] at hj
        have := (List.getElem?_inj (i := j) (j := i) (by omega) TD.nd).mp (hj.trans hk.symm)
        omega
      refine ⟨rD key, (fnd.take i).map rD, .tup (ssqt s914 hb2) (dpa_keys _), .tup hp2 (dpa_rows ((each_take eb i).imp fun _ _ h => ssqt s914 h)), shaped_row (kok key (List.mem_of_getElem? hk)), shaped_rows (fun k hk => kok k (List.mem_of_mem_take hk)), _, rfl, ?_⟩
      rw [no_eqv nin]
      have hsl14 := s14 _ _ (s13 _ _ hsl)
      refine iteF ⟨_, rfl, _, rfl, sl, _, rfl, .inl (SqL.of hsl14), rfl, flat_int _, _, rfl, _, rfl, c, _, rfl, .inr (ssqt s14 hc13), _, _, rfl, rfl, _, _, rfl, rfl, rfl, _, rfl, ?_⟩
      rw [inV_int, List.length_map, lb, Int.zero_add]
      have e2 : decide ((i : Int) ∈ (fr.map Row.nums).flatten) = decide ((i : Int) < (fr.length : Int) - 1) := by
        refine decide_eq_decide.mpr ⟨fun h => ?_, fun h => ?_⟩
        · obtain ⟨L, hL, hm⟩ := List.mem_flatten.mp h
          obtain ⟨r, hr, rfl⟩ := List.mem_map.mp hL
          obtain ⟨j, hj⟩ := List.mem_iff_getElem?.mp hr
          have := (TD.sp i hi2).mp ⟨j, r, hj, hm⟩
          omega
        · obtain ⟨j, r, hj, hm⟩ := (TD.sp i hi2).mpr (by omega)
          exact List.mem_flatten.mpr ⟨_, List.mem_map.mpr ⟨r, List.mem_of_getElem? hj, rfl⟩, hm⟩
      dsimp only
      rw [e2, if_neg Bool.false_ne_true, decide_eq_true rfl]
      exact iteF ⟨_, rfl, s13.trans s14⟩
    rintro σ H13 ⟨y7, rfl, s13⟩
    have s913 := s12.trans s13
    have Rc : RowsAt K H9 c fnd := ⟨bs, hc, eb⟩
    refine ⟨fun σ' H' => σ' = [some (.ref l), some (.ref PL.p), some (.ref t), some (.str txt), some (.ref c), some (.ref sl), y6, y7] ∧ Same H9 H', ?_, ?_⟩
    · refine ⟨_, rfl, _, rfl, txt, rfl, by omega, fun rows2 e2 H14 c2 s14 R2 => ?_, fun e => absurd ef (by rw [e]; intro k; cases k)⟩
      rw [ef] at e2
      cases e2
      refine ⟨.inr (.inr ⟨c, c2, fnd, rfl, Rc.imm (simm (s913.trans s14)), R2, by omega, fun k hk => Nat.le_trans (hbx.2 k hk) (by decide)⟩), true, rfl, iteF ?_⟩
      refine ⟨_, rfl, c, fr, rfl, Sf.imm (simm (s913.trans s14)), G, fun _ H15 s15 => ?_, fun hb2 => absurd hb2 (by omega)⟩
      rw [etx]
      exact ⟨_, rfl, .inr (.inl ⟨_, rfl⟩), true, rfl, iteF ⟨rfl, (s913.trans s14).trans s15⟩⟩
    rintro σ H14 ⟨rfl, s14⟩
    refine ⟨_, rfl, _, rfl, .inl ⟨txt, rfl, by omega, fun rows2 e2 H15 c2 s15 R2 => ?_, fun e => absurd ef (by rw [e]; intro k; cases k)⟩⟩
    rw [ef] at e2
    cases e2
    exact ⟨_, rfl, .inr (.inr ⟨c2, c, fnd, rfl, R2, Rc.imm (simm (s14.trans s15)), by omega, fun k hk => Nat.le_trans (hbx.2 k hk) (by decide)⟩), q _⟩
end


/-! ### what the top has written; the law's own head -/
theorem all_mk {l : PySem.W.OpenLaw} {w : World} {K : PySem.W.Frag} {h : Heap} {mg : Str → Option Value} {fa f1 f2 f3 f4 f5 f6 f7 f8 f9 f10 f11 f12 f13 f14 f15 f16 f17 f18 f19 f20 f21 f22 f23 f24 f25 f26 f27 : Addr} (X : K.In h) (G : h.Ns mainGlobals mg) (hfa : mg "law" = some (.ref fa))
    {od1 an1 od2 an2 od3 an3 od4 an4 od5 an5 od6 an6 od7 an7 od8 an8 od9 an9 od10 an10 od11 an11 od12 an12 od13 an13 od14 an14 od15 an15 od16 an16 od17 an17 od18 an18 od19 an19 od20 an20 od21 an21 od22 an22 od23 an23 od24 an24 od25 an25 od26 an26 od27 an27 : Option Addr} {sl1 sl2 sl3 sl4 sl5 sl6 sl7 sl8 sl9 sl10 sl11 sl12 sl13 sl14 sl15 sl16 sl17 sl18 sl19 sl20 sl21 sl22 sl23 sl24 sl25 sl26 sl27 : Array (Option Value)} {oc1 kV1 dc1 pm1 cd1 ct1 oc2 kV2 dc2 pm2 cd2 ct2 oc3 kV3 dc3 pm3 cd3 ct3 oc4 kV4 dc4 pm4 cd4 ct4 oc5 kV5 dc5 pm5 cd5 ct5 oc6 kV6 dc6 pm6 cd6 ct6 oc7 kV7 dc7 pm7 cd7 ct7 oc8 kV8 dc8 pm8 cd8 ct8 oc9 kV9 dc9 pm9 cd9 ct9 oc10 kV10 dc10 pm10 cd10 ct10 oc11 kV11 dc11 pm11 cd11 ct11 oc12 kV12 dc12 pm12 cd12 ct12 oc13 kV13 dc13 pm13 cd13 ct13 oc14 kV14 dc14 pm14 cd14 ct14 oc15 kV15 dc15 pm15 cd15 ct15 oc16 kV16 dc16 pm16 cd16 ct16 oc17 kV17 dc17 pm17 cd17 ct17 oc18 kV18 dc18 pm18 cd18 ct18 oc19 kV19 dc19 pm19 cd19 ct19 oc20 kV20 dc20 pm20 cd20 ct20 oc21 kV21 dc21 pm21 cd21 ct21 oc22 kV22 dc22 pm22 cd22 ct22 oc23 kV23 dc23 pm23 cd23 ct23 oc24 kV24 dc24 pm24 cd24 ct24 oc25 kV25 dc25 pm25 cd25 ct25 oc26 kV26 dc26 pm26 cd26 ct26 oc27 kV27 dc27 pm27 cd27 ct27 : Value}
    (a1 : PySem.W.nsIn K mainGlobals "is_name" = some (some (.ref f1))) (l1 : K.lookup f1 = some ⟨oc1, od1, .func (PySem.W.fnOf "is_name" "is_name" (defArgs sis_name) (defBody sis_name) (defScope sis_name) .none kV1 dc1 pm1 an1 cd1 ct1), sl1⟩) (c1 : PySem.W.codeIn K cd1 "is_name" = true) (k1 : PySem.W.keepIn K (.ref f1) = true)
    (a2 : PySem.W.nsIn K mainGlobals "head_of" = some (some (.ref f2))) (l2 : K.lookup f2 = some ⟨oc2, od2, .func (PySem.W.fnOf "head_of" "head_of" (defArgs shead_of) (defBody shead_of) (defScope shead_of) .none kV2 dc2 pm2 an2 cd2 ct2), sl2⟩) (c2 : PySem.W.codeIn K cd2 "head_of" = true) (k2 : PySem.W.keepIn K (.ref f2) = true)
    (a3 : PySem.W.nsIn K mainGlobals "numbers_of" = some (some (.ref f3))) (l3 : K.lookup f3 = some ⟨oc3, od3, .func (PySem.W.fnOf "numbers_of" "numbers_of" (defArgs snumbers_of) (defBody snumbers_of) (defScope snumbers_of) .none kV3 dc3 pm3 an3 cd3 ct3), sl3⟩) (c3 : PySem.W.codeIn K cd3 "numbers_of" = true) (k3 : PySem.W.keepIn K (.ref f3) = true)
    (a4 : PySem.W.nsIn K mainGlobals "words_in" = some (some (.ref f4))) (l4 : K.lookup f4 = some ⟨oc4, od4, .func (PySem.W.fnOf "words_in" "words_in" (defArgs swords_in) (defBody swords_in) (defScope swords_in) .none kV4 dc4 pm4 an4 cd4 ct4), sl4⟩) (c4 : PySem.W.codeIn K cd4 "words_in" = true) (k4 : PySem.W.keepIn K (.ref f4) = true)
    (a5 : PySem.W.nsIn K mainGlobals "text_of" = some (some (.ref f5))) (l5 : K.lookup f5 = some ⟨oc5, od5, .func (PySem.W.fnOf "text_of" "text_of" (defArgs stext_of) (defBody stext_of) (defScope stext_of) .none kV5 dc5 pm5 an5 cd5 ct5), sl5⟩) (c5 : PySem.W.codeIn K cd5 "text_of" = true) (k5 : PySem.W.keepIn K (.ref f5) = true)
    (a6 : PySem.W.nsIn K mainGlobals "head_before" = some (some (.ref f6))) (l6 : K.lookup f6 = some ⟨oc6, od6, .func (PySem.W.fnOf "head_before" "head_before" (defArgs shead_before) (defBody shead_before) (defScope shead_before) .none kV6 dc6 pm6 an6 cd6 ct6), sl6⟩) (c6 : PySem.W.codeIn K cd6 "head_before" = true) (k6 : PySem.W.keepIn K (.ref f6) = true)
    (a7 : PySem.W.nsIn K mainGlobals "read" = some (some (.ref f7))) (l7 : K.lookup f7 = some ⟨oc7, od7, .func (PySem.W.fnOf "read" "read" (defArgs sread) (defBody sread) (defScope sread) .none kV7 dc7 pm7 an7 cd7 ct7), sl7⟩) (c7 : PySem.W.codeIn K cd7 "read" = true) (k7 : PySem.W.keepIn K (.ref f7) = true)
    (a8 : PySem.W.nsIn K mainGlobals "_law_pool" = some (some (.ref f8))) (l8 : K.lookup f8 = some ⟨oc8, od8, .func (PySem.W.fnOf "_law_pool" "_law_pool" (defArgs s_law_pool) (defBody s_law_pool) (defScope s_law_pool) .none kV8 dc8 pm8 an8 cd8 ct8), sl8⟩) (c8 : PySem.W.codeIn K cd8 "_law_pool" = true) (k8 : PySem.W.keepIn K (.ref f8) = true)
    (a9 : PySem.W.nsIn K mainGlobals "_law_draw" = some (some (.ref f9))) (l9 : K.lookup f9 = some ⟨oc9, od9, .func (PySem.W.fnOf "_law_draw" "_law_draw" (defArgs s_law_draw) (defBody s_law_draw) (defScope s_law_draw) .none kV9 dc9 pm9 an9 cd9 ct9), sl9⟩) (c9 : PySem.W.codeIn K cd9 "_law_draw" = true) (k9 : PySem.W.keepIn K (.ref f9) = true)
    (a10 : PySem.W.nsIn K mainGlobals "_law_name" = some (some (.ref f10))) (l10 : K.lookup f10 = some ⟨oc10, od10, .func (PySem.W.fnOf "_law_name" "_law_name" (defArgs s_law_name) (defBody s_law_name) (defScope s_law_name) .none kV10 dc10 pm10 an10 cd10 ct10), sl10⟩) (c10 : PySem.W.codeIn K cd10 "_law_name" = true) (k10 : PySem.W.keepIn K (.ref f10) = true)
    (a11 : PySem.W.nsIn K mainGlobals "_law_names" = some (some (.ref f11))) (l11 : K.lookup f11 = some ⟨oc11, od11, .func (PySem.W.fnOf "_law_names" "_law_names" (defArgs s_law_names) (defBody s_law_names) (defScope s_law_names) .none kV11 dc11 pm11 an11 cd11 ct11), sl11⟩) (c11 : PySem.W.codeIn K cd11 "_law_names" = true) (k11 : PySem.W.keepIn K (.ref f11) = true)
    (a12 : PySem.W.nsIn K mainGlobals "_law_row" = some (some (.ref f12))) (l12 : K.lookup f12 = some ⟨oc12, od12, .func (PySem.W.fnOf "_law_row" "_law_row" (defArgs s_law_row) (defBody s_law_row) (defScope s_law_row) .none kV12 dc12 pm12 an12 cd12 ct12), sl12⟩) (c12 : PySem.W.codeIn K cd12 "_law_row" = true) (k12 : PySem.W.keepIn K (.ref f12) = true)
    (a13 : PySem.W.nsIn K mainGlobals "_law_saying" = some (some (.ref f13))) (l13 : K.lookup f13 = some ⟨oc13, od13, .func (PySem.W.fnOf "_law_saying" "_law_saying" (defArgs s_law_saying) (defBody s_law_saying) (defScope s_law_saying) .none kV13 dc13 pm13 an13 cd13 ct13), sl13⟩) (c13 : PySem.W.codeIn K cd13 "_law_saying" = true) (k13 : PySem.W.keepIn K (.ref f13) = true)
    (a14 : PySem.W.nsIn K mainGlobals "_law_number" = some (some (.ref f14))) (l14 : K.lookup f14 = some ⟨oc14, od14, .func (PySem.W.fnOf "_law_number" "_law_number" (defArgs s_law_number) (defBody s_law_number) (defScope s_law_number) .none kV14 dc14 pm14 an14 cd14 ct14), sl14⟩) (c14 : PySem.W.codeIn K cd14 "_law_number" = true) (k14 : PySem.W.keepIn K (.ref f14) = true)
    (a15 : PySem.W.nsIn K mainGlobals "_law_tuple" = some (some (.ref f15))) (l15 : K.lookup f15 = some ⟨oc15, od15, .func (PySem.W.fnOf "_law_tuple" "_law_tuple" (defArgs s_law_tuple) (defBody s_law_tuple) (defScope s_law_tuple) .none kV15 dc15 pm15 an15 cd15 ct15), sl15⟩) (c15 : PySem.W.codeIn K cd15 "_law_tuple" = true) (k15 : PySem.W.keepIn K (.ref f15) = true)
    (a16 : PySem.W.nsIn K mainGlobals "_law_good_name" = some (some (.ref f16))) (l16 : K.lookup f16 = some ⟨oc16, od16, .func (PySem.W.fnOf "_law_good_name" "_law_good_name" (defArgs s_law_good_name) (defBody s_law_good_name) (defScope s_law_good_name) .none kV16 dc16 pm16 an16 cd16 ct16), sl16⟩) (c16 : PySem.W.codeIn K cd16 "_law_good_name" = true) (k16 : PySem.W.keepIn K (.ref f16) = true)
    (a17 : PySem.W.nsIn K mainGlobals "_law_same" = some (some (.ref f17))) (l17 : K.lookup f17 = some ⟨oc17, od17, .func (PySem.W.fnOf "_law_same" "_law_same" (defArgs s_law_same) (defBody s_law_same) (defScope s_law_same) .none kV17 dc17 pm17 an17 cd17 ct17), sl17⟩) (c17 : PySem.W.codeIn K cd17 "_law_same" = true) (k17 : PySem.W.keepIn K (.ref f17) = true)
    (a18 : PySem.W.nsIn K mainGlobals "_law_many_parts" = some (some (.ref f18))) (l18 : K.lookup f18 = some ⟨oc18, od18, .func (PySem.W.fnOf "_law_many_parts" "_law_many_parts" (defArgs s_law_many_parts) (defBody s_law_many_parts) (defScope s_law_many_parts) .none kV18 dc18 pm18 an18 cd18 ct18), sl18⟩) (c18 : PySem.W.codeIn K cd18 "_law_many_parts" = true) (k18 : PySem.W.keepIn K (.ref f18) = true)
    (a19 : PySem.W.nsIn K mainGlobals "_law_can_stand" = some (some (.ref f19))) (l19 : K.lookup f19 = some ⟨oc19, od19, .func (PySem.W.fnOf "_law_can_stand" "_law_can_stand" (defArgs s_law_can_stand) (defBody s_law_can_stand) (defScope s_law_can_stand) .none kV19 dc19 pm19 an19 cd19 ct19), sl19⟩) (c19 : PySem.W.codeIn K cd19 "_law_can_stand" = true) (k19 : PySem.W.keepIn K (.ref f19) = true)
    (a20 : PySem.W.nsIn K mainGlobals "_law_first_bad" = some (some (.ref f20))) (l20 : K.lookup f20 = some ⟨oc20, od20, .func (PySem.W.fnOf "_law_first_bad" "_law_first_bad" (defArgs s_law_first_bad) (defBody s_law_first_bad) (defScope s_law_first_bad) .none kV20 dc20 pm20 an20 cd20 ct20), sl20⟩) (c20 : PySem.W.codeIn K cd20 "_law_first_bad" = true) (k20 : PySem.W.keepIn K (.ref f20) = true)
    (a21 : PySem.W.nsIn K mainGlobals "_law_row_words" = some (some (.ref f21))) (l21 : K.lookup f21 = some ⟨oc21, od21, .func (PySem.W.fnOf "_law_row_words" "_law_row_words" (defArgs s_law_row_words) (defBody s_law_row_words) (defScope s_law_row_words) .none kV21 dc21 pm21 an21 cd21 ct21), sl21⟩) (c21 : PySem.W.codeIn K cd21 "_law_row_words" = true) (k21 : PySem.W.keepIn K (.ref f21) = true)
    (a22 : PySem.W.nsIn K mainGlobals "_law_row_numbers" = some (some (.ref f22))) (l22 : K.lookup f22 = some ⟨oc22, od22, .func (PySem.W.fnOf "_law_row_numbers" "_law_row_numbers" (defArgs s_law_row_numbers) (defBody s_law_row_numbers) (defScope s_law_row_numbers) .none kV22 dc22 pm22 an22 cd22 ct22), sl22⟩) (c22 : PySem.W.codeIn K cd22 "_law_row_numbers" = true) (k22 : PySem.W.keepIn K (.ref f22) = true)
    (a23 : PySem.W.nsIn K mainGlobals "_law_counts" = some (some (.ref f23))) (l23 : K.lookup f23 = some ⟨oc23, od23, .func (PySem.W.fnOf "_law_counts" "_law_counts" (defArgs s_law_counts) (defBody s_law_counts) (defScope s_law_counts) .none kV23 dc23 pm23 an23 cd23 ct23), sl23⟩) (c23 : PySem.W.codeIn K cd23 "_law_counts" = true) (k23 : PySem.W.keepIn K (.ref f23) = true)
    (a24 : PySem.W.nsIn K mainGlobals "_law_text" = some (some (.ref f24))) (l24 : K.lookup f24 = some ⟨oc24, od24, .func (PySem.W.fnOf "_law_text" "_law_text" (defArgs s_law_text) (defBody s_law_text) (defScope s_law_text) .none kV24 dc24 pm24 an24 cd24 ct24), sl24⟩) (c24 : PySem.W.codeIn K cd24 "_law_text" = true) (k24 : PySem.W.keepIn K (.ref f24) = true)
    (a25 : PySem.W.nsIn K mainGlobals "_law_head" = some (some (.ref f25))) (l25 : K.lookup f25 = some ⟨oc25, od25, .func (PySem.W.fnOf "_law_head" "_law_head" (defArgs s_law_head) (defBody s_law_head) (defScope s_law_head) .none kV25 dc25 pm25 an25 cd25 ct25), sl25⟩) (c25 : PySem.W.codeIn K cd25 "_law_head" = true) (k25 : PySem.W.keepIn K (.ref f25) = true)
    (a26 : PySem.W.nsIn K mainGlobals "_law_read" = some (some (.ref f26))) (l26 : K.lookup f26 = some ⟨oc26, od26, .func (PySem.W.fnOf "_law_read" "_law_read" (defArgs s_law_read) (defBody s_law_read) (defScope s_law_read) .none kV26 dc26 pm26 an26 cd26 ct26), sl26⟩) (c26 : PySem.W.codeIn K cd26 "_law_read" = true) (k26 : PySem.W.keepIn K (.ref f26) = true)
    (a27 : PySem.W.nsIn K mainGlobals "law" = some (some (.ref f27))) (l27 : K.lookup f27 = some ⟨oc27, od27, .func (PySem.W.fnOf "law" "law" (defArgs slaw) (defBody slaw) (defScope slaw) .none kV27 dc27 pm27 an27 cd27 ct27), sl27⟩) (c27 : PySem.W.codeIn K cd27 "law" = true) (k27 : PySem.W.keepIn K (.ref f27) = true)
    (z_ValueError : PySem.W.nsIn K mainGlobals "ValueError" = some none)
    (z_tuple : PySem.W.nsIn K mainGlobals "tuple" = some none)
    (z_range : PySem.W.nsIn K mainGlobals "range" = some none)
    (z_isinstance : PySem.W.nsIn K mainGlobals "isinstance" = some none)
    (z_bool : PySem.W.nsIn K mainGlobals "bool" = some none)
    (z_int : PySem.W.nsIn K mainGlobals "int" = some none)
    (z_str : PySem.W.nsIn K mainGlobals "str" = some none)
    (z_len : PySem.W.nsIn K mainGlobals "len" = some none)
    (z_list : PySem.W.nsIn K mainGlobals "list" = some none)
    (z_min : PySem.W.nsIn K mainGlobals "min" = some none)
    (z_sum : PySem.W.nsIn K mainGlobals "sum" = some none)
    {aWORDS : Addr} {odWORDS : Option Addr} {itsWORDS : Array Value} {nWORDS : Nat} {slWORDS : Array (Option Value)} (gWORDS : PySem.W.nsIn K mainGlobals "WORDS" = some (some (.ref aWORDS))) (lWORDS : K.lookup aWORDS = some ⟨.type "tuple", odWORDS, .seq itsWORDS nWORDS, slWORDS⟩) (sWORDS : itsWORDS.size ≤ sizeLine) (vWORDS : Vals (wordsL.map V.str) itsWORDS.toList)
    {aWHOSE : Addr} {odWHOSE : Option Addr} {itsWHOSE : Array Value} {nWHOSE : Nat} {slWHOSE : Array (Option Value)} (gWHOSE : PySem.W.nsIn K mainGlobals "WHOSE" = some (some (.ref aWHOSE))) (lWHOSE : K.lookup aWHOSE = some ⟨.type "tuple", odWHOSE, .seq itsWHOSE nWHOSE, slWHOSE⟩) (sWHOSE : itsWHOSE.size ≤ sizeLine) (vWHOSE : Vals (whoseL.map V.str) itsWHOSE.toList)
    {uLETTERS : Value} (gLETTERS : PySem.W.nsIn K mainGlobals "LETTERS" = some (some uLETTERS)) (rLETTERS : RelV (.str lettersS) uLETTERS)
    {uLONGEST : Value} (gLONGEST : PySem.W.nsIn K mainGlobals "LONGEST" = some (some uLONGEST)) (rLONGEST : RelV (.int 160) uLONGEST)
    {uWORDY : Value} (gWORDY : PySem.W.nsIn K mainGlobals "WORDY" = some (some uWORDY)) (rWORDY : RelV (.int 400) uWORDY)
    {aPARTS : Addr} {esPARTS : Array DictEntry} {nPARTS : Nat} (gPARTS : PySem.W.nsIn K mainGlobals "PARTS" = some (some (.ref aPARTS))) (lPARTS : K.lookup aPARTS = some ⟨.type "dict", none, .dict esPARTS nPARTS, #[]⟩) (iPARTS : PySem.W.KeysLit w.params esPARTS.toList) (wPARTS : (aPARTS == sysModules) = false)
    (mPARTS : ∀ e ∈ esPARTS.toList, ∃ x t, e.key = .str x t ∧ x ∈ partsL.map (·.1))
    {uPARTS0 : Value} (ePARTS0 : PySem.W.nsIn K aPARTS "yes" = some (some uPARTS0)) (rPARTS0 : RelV (.int 0) uPARTS0)
    {uPARTS1 : Value} (ePARTS1 : PySem.W.nsIn K aPARTS "no" = some (some uPARTS1)) (rPARTS1 : RelV (.int 0) uPARTS1)
    {uPARTS2 : Value} (ePARTS2 : PySem.W.nsIn K aPARTS "not" = some (some uPARTS2)) (rPARTS2 : RelV (.int 1) uPARTS2)
    {uPARTS3 : Value} (ePARTS3 : PySem.W.nsIn K aPARTS "and" = some (some uPARTS3)) (rPARTS3 : RelV (.int 2) uPARTS3)
    {uPARTS4 : Value} (ePARTS4 : PySem.W.nsIn K aPARTS "or" = some (some uPARTS4)) (rPARTS4 : RelV (.int 2) uPARTS4)
    {uPARTS5 : Value} (ePARTS5 : PySem.W.nsIn K aPARTS "step" = some (some uPARTS5)) (rPARTS5 : RelV (.int 1) uPARTS5)
    {aFORMS : Addr} {esFORMS : Array DictEntry} {nFORMS : Nat} (gFORMS : PySem.W.nsIn K mainGlobals "FORMS" = some (some (.ref aFORMS))) (lFORMS : K.lookup aFORMS = some ⟨.type "dict", none, .dict esFORMS nFORMS, #[]⟩) (iFORMS : PySem.W.KeysLit w.params esFORMS.toList) (wFORMS : (aFORMS == sysModules) = false)
    (mFORMS : ∀ e ∈ esFORMS.toList, ∃ x t, e.key = .str x t ∧ x ∈ formsL.map (·.1))
    {uFORMS0 : Value} (eFORMS0 : PySem.W.nsIn K aFORMS "next" = some (some uFORMS0)) (rFORMS0 : RelV (.int 1) uFORMS0)
    {uFORMS1 : Value} (eFORMS1 : PySem.W.nsIn K aFORMS "once" = some (some uFORMS1)) (rFORMS1 : RelV (.int 1) uFORMS1)
    {uFORMS2 : Value} (eFORMS2 : PySem.W.nsIn K aFORMS "ever" = some (some uFORMS2)) (rFORMS2 : RelV (.int 1) uFORMS2)
    {uFORMS3 : Value} (eFORMS3 : PySem.W.nsIn K aFORMS "until" = some (some uFORMS3)) (rFORMS3 : RelV (.int 2) uFORMS3)
    {uFORMS4 : Value} (eFORMS4 : PySem.W.nsIn K aFORMS "unless" = some (some uFORMS4)) (rFORMS4 : RelV (.int 2) uFORMS4)
    {xcTooGreat : Addr} (gXTooGreat : PySem.W.nsIn K mainGlobals "TooGreat" = some (some (.ref xcTooGreat))) (kXTooGreat : PySem.W.keepIn K (.ref xcTooGreat) = true) (bXTooGreat : PySem.W.subIn K (.ref xcTooGreat) (.type "BaseException") = some true) (tXTooGreat : PySem.W.typeIn K (.ref xcTooGreat) = some (.type "type")) (hXTooGreat : PySem.W.hasDictIn K xcTooGreat = true)
    {xcNoText : Addr} (gXNoText : PySem.W.nsIn K mainGlobals "NoText" = some (some (.ref xcNoText))) (kXNoText : PySem.W.keepIn K (.ref xcNoText) = true) (bXNoText : PySem.W.subIn K (.ref xcNoText) (.type "BaseException") = some true) (tXNoText : PySem.W.typeIn K (.ref xcNoText) = some (.type "type")) (hXNoText : PySem.W.hasDictIn K xcNoText = true)
    (eX : PySem.W.excIn K xcTooGreat [.type "ValueError", .type "Exception", .type "BaseException", .type "object"] "ValueError.__new__" = true)
    (uX : PySem.W.excIn K xcNoText [.type "ValueError", .type "Exception", .type "BaseException", .type "object"] "ValueError.__new__" = true)
    (e1 : PySem.W.findIn K (.ref xcTooGreat) "__getattribute__" = some (some (.builtin "BaseException.__getattribute__")))
    (e2 : PySem.W.findIn K (.ref xcTooGreat) "__getattr__" = some none)
    (e3 : PySem.W.findIn K (.ref xcTooGreat) "__class__" = some (some (.builtin "object.__class__")))
    (e4 : PySem.W.specialIn K (.builtin "object.__class__") "__get__" = some (some (.builtin "getset_descriptor.__get__")))
    (e5 : PySem.W.takesIn K (.builtin "object.__class__") = some true)
    (e6 : PySem.W.mroIn K xcTooGreat (.type "object") = some true)
    (e7 : PySem.W.subIn K (.ref xcTooGreat) (.ref xcTooGreat) = some true)
    (e8 : PySem.W.subIn K (.ref xcTooGreat) (.type "ValueError") = some true)
    (u1 : PySem.W.findIn K (.ref xcNoText) "__getattribute__" = some (some (.builtin "BaseException.__getattribute__")))
    (u2 : PySem.W.findIn K (.ref xcNoText) "__getattr__" = some none)
    (u3 : PySem.W.findIn K (.ref xcNoText) "__class__" = some (some (.builtin "object.__class__")))
    (u6 : PySem.W.mroIn K xcNoText (.type "object") = some true)
    (u7 : PySem.W.subIn K (.ref xcNoText) (.ref xcNoText) = some true)
    (u8 : PySem.W.subIn K (.ref xcNoText) (.type "ValueError") = some true)
    : ∃ fd : FuncData, (∀ (s : Shared) (v : Value), BindsTo s fd ⟨[v], []⟩ [("_law_script", v)]) ∧ ∀ base : Heap, K.In base → base.Ns mainGlobals mg → FnOk l.prog w K mg base CX0 5 fa fd ["_law_script"] (spLaw K) := by
  have e := hfa.symm.trans (PySem.W.mg_of X G a27)
  cases e
  have F1 := fun_mk (st := sis_name) l1 c1 k1
  have F2 := fun_mk (st := shead_of) l2 c2 k2
  have F3 := fun_mk (st := snumbers_of) l3 c3 k3
  have F4 := fun_mk (st := swords_in) l4 c4 k4
  have F5 := fun_mk (st := stext_of) l5 c5 k5
  have F6 := fun_mk (st := shead_before) l6 c6 k6
  have F7 := fun_mk (st := sread) l7 c7 k7
  have F8 := fun_mk (st := s_law_pool) l8 c8 k8
  have F9 := fun_mk (st := s_law_draw) l9 c9 k9
  have F10 := fun_mk (st := s_law_name) l10 c10 k10
  have F11 := fun_mk (st := s_law_names) l11 c11 k11
  have F12 := fun_mk (st := s_law_row) l12 c12 k12
  have F13 := fun_mk (st := s_law_saying) l13 c13 k13
  have F14 := fun_mk (st := s_law_number) l14 c14 k14
  have F15 := fun_mk (st := s_law_tuple) l15 c15 k15
  have F16 := fun_mk (st := s_law_good_name) l16 c16 k16
  have F17 := fun_mk (st := s_law_same) l17 c17 k17
  have F18 := fun_mk (st := s_law_many_parts) l18 c18 k18
  have F19 := fun_mk (st := s_law_can_stand) l19 c19 k19
  have F20 := fun_mk (st := s_law_first_bad) l20 c20 k20
  have F21 := fun_mk (st := s_law_row_words) l21 c21 k21
  have F22 := fun_mk (st := s_law_row_numbers) l22 c22 k22
  have F23 := fun_mk (st := s_law_counts) l23 c23 k23
  have F24 := fun_mk (st := s_law_text) l24 c24 k24
  have F25 := fun_mk (st := s_law_head) l25 c25 k25
  have F26 := fun_mk (st := s_law_read) l26 c26 k26
  have F27 := fun_mk (st := slaw) l27 c27 k27
  have b1 := F1.binds (ps := ["thing"]) fun _ _ _ _ _ _ us hl => match us, hl with | [_], _ => rfl
  have b2 := F2.binds (ps := ["row"]) fun _ _ _ _ _ _ us hl => match us, hl with | [_], _ => rfl
  have b3 := F3.binds (ps := ["row"]) fun _ _ _ _ _ _ us hl => match us, hl with | [_], _ => rfl
  have b4 := F4.binds (ps := ["saying"]) fun _ _ _ _ _ _ us hl => match us, hl with | [_], _ => rfl
  have b5 := F5.binds (ps := ["saying"]) fun _ _ _ _ _ _ us hl => match us, hl with | [_], _ => rfl
  have b6 := F6.binds (ps := ["words", "at"]) fun _ _ _ _ _ _ us hl => match us, hl with | [_, _], _ => rfl
  have b7 := F7.binds (ps := ["text"]) fun _ _ _ _ _ _ us hl => match us, hl with | [_], _ => rfl
  have b8 := F8.binds (ps := ["_law_script"]) fun _ _ _ _ _ _ us hl => match us, hl with | [_], _ => rfl
  have b9 := F9.binds (ps := ["_law_pool_here", "_law_many"]) fun _ _ _ _ _ _ us hl => match us, hl with | [_, _], _ => rfl
  have b10 := F10.binds (ps := ["_law_pool_here", "_law_start", "_law_taken"]) fun _ _ _ _ _ _ us hl => match us, hl with | [_, _, _], _ => rfl
  have b11 := F11.binds (ps := ["_law_pool_here", "_law_many"]) fun _ _ _ _ _ _ us hl => match us, hl with | [_, _], _ => rfl
  have b12 := F12.binds (ps := ["_law_pool_here", "_law_names_here", "_law_at"]) fun _ _ _ _ _ _ us hl => match us, hl with | [_, _, _], _ => rfl
  have b13 := F13.binds (ps := ["_law_pool_here", "_law_names_here", "_law_most"]) fun _ _ _ _ _ _ us hl => match us, hl with | [_, _, _], _ => rfl
  have b14 := F14.binds (ps := ["_law_thing", "_law_low", "_law_high"]) fun _ _ _ _ _ _ us hl => match us, hl with | [_, _, _], _ => rfl
  have b15 := F15.binds (ps := ["_law_thing", "_law_least", "_law_most"]) fun _ _ _ _ _ _ us hl => match us, hl with | [_, _, _], _ => rfl
  have b16 := F16.binds (ps := ["_law_thing"]) fun _ _ _ _ _ _ us hl => match us, hl with | [_], _ => rfl
  have b17 := F17.binds (ps := ["_law_found", "_law_due"]) fun _ _ _ _ _ _ us hl => match us, hl with | [_, _], _ => rfl
  have b18 := F18.binds (ps := ["_law_word"]) fun _ _ _ _ _ _ us hl => match us, hl with | [_], _ => rfl
  have b19 := F19.binds (ps := ["_law_thing", "_law_at"]) fun _ _ _ _ _ _ us hl => match us, hl with | [_, _], _ => rfl
  have b20 := F20.binds (ps := ["_law_thing"]) fun _ _ _ _ _ _ us hl => match us, hl with | [_], _ => rfl
  have b21 := F21.binds (ps := ["_law_row_here"]) fun _ _ _ _ _ _ us hl => match us, hl with | [_], _ => rfl
  have b22 := F22.binds (ps := ["_law_row_here"]) fun _ _ _ _ _ _ us hl => match us, hl with | [_], _ => rfl
  have b23 := F23.binds (ps := ["_law_saying_here"]) fun _ _ _ _ _ _ us hl => match us, hl with | [_], _ => rfl
  have b24 := F24.binds (ps := ["_law_saying_here"]) fun _ _ _ _ _ _ us hl => match us, hl with | [_], _ => rfl
  have b25 := F25.binds (ps := ["_law_words", "_law_k"]) fun _ _ _ _ _ _ us hl => match us, hl with | [_, _], _ => rfl
  have b26 := F26.binds (ps := ["_law_text_here"]) fun _ _ _ _ _ _ us hl => match us, hl with | [_], _ => rfl
  have T : Bi mg := ⟨PySem.W.mg_none_of X G z_ValueError, PySem.W.mg_none_of X G z_tuple, PySem.W.mg_none_of X G z_range, PySem.W.mg_none_of X G z_isinstance, PySem.W.mg_none_of X G z_bool, PySem.W.mg_none_of X G z_int, PySem.W.mg_none_of X G z_str, PySem.W.mg_none_of X G z_len, PySem.W.mg_none_of X G z_list, PySem.W.mg_none_of X G z_min, PySem.W.mg_none_of X G z_sum⟩
  let S : XOne K mg "TooGreat" := ⟨xcTooGreat, ⟨PySem.W.mg_of X G gXTooGreat, kXTooGreat, bXTooGreat, tXTooGreat, hXTooGreat⟩, ⟨eX, ⟨e1, e2, bXTooGreat, hXTooGreat, e3, e4, e5, e6⟩, e7, e8⟩⟩
  have S2 : XOne K mg "NoText" := ⟨xcNoText, ⟨PySem.W.mg_of X G gXNoText, kXNoText, bXNoText, tXNoText, hXNoText⟩, ⟨uX, ⟨u1, u2, bXNoText, hXNoText, u3, e4, e5, u6⟩, u7, u8⟩⟩
  have W : Wd K mg := ⟨aWORDS, uLETTERS, PySem.W.mg_of X G gWORDS, rfl, fun _ => .inr ⟨_, _, _, lWORDS, rfl, rfl, sWORDS, vWORDS⟩, PySem.W.mg_of X G gLETTERS, rLETTERS⟩
  have W1 : Wr K w mg := ⟨⟨⟨aWHOSE, aPARTS, aFORMS, esPARTS, nPARTS, esFORMS, nFORMS, uLONGEST, PySem.W.mg_of X G gWHOSE, rfl, fun _ => .inr ⟨_, _, _, lWHOSE, rfl, rfl, sWHOSE, vWHOSE⟩, PySem.W.mg_of X G gPARTS, rfl, ⟨lPARTS, iPARTS, wPARTS⟩, PySem.W.mg_of X G gFORMS, rfl, ⟨lFORMS, iFORMS, wFORMS⟩, PySem.W.mg_of X G gLONGEST, rLONGEST, List.forall_mem_cons.mpr ⟨⟨_, ePARTS0, rPARTS0⟩, List.forall_mem_cons.mpr ⟨⟨_, ePARTS1, rPARTS1⟩, List.forall_mem_cons.mpr ⟨⟨_, ePARTS2, rPARTS2⟩, List.forall_mem_cons.mpr ⟨⟨_, ePARTS3, rPARTS3⟩, List.forall_mem_cons.mpr ⟨⟨_, ePARTS4, rPARTS4⟩, List.forall_mem_cons.mpr ⟨⟨_, ePARTS5, rPARTS5⟩, List.forall_mem_nil _⟩⟩⟩⟩⟩⟩, List.forall_mem_cons.mpr ⟨⟨_, eFORMS0, rFORMS0⟩, List.forall_mem_cons.mpr ⟨⟨_, eFORMS1, rFORMS1⟩, List.forall_mem_cons.mpr ⟨⟨_, eFORMS2, rFORMS2⟩, List.forall_mem_cons.mpr ⟨⟨_, eFORMS3, rFORMS3⟩, List.forall_mem_cons.mpr ⟨⟨_, eFORMS4, rFORMS4⟩, List.forall_mem_nil _⟩⟩⟩⟩⟩⟩, fun x h => ns_none lPARTS mPARTS (lookup_none h), fun x h => ns_none lFORMS mFORMS (lookup_none h)⟩, uWORDY, PySem.W.mg_of X G gWORDY, rWORDY⟩
  have W3 : Wy mg := ⟨uWORDY, PySem.W.mg_of X G gWORDY, rWORDY⟩
  have W4 : Wh K mg := ⟨aWHOSE, PySem.W.mg_of X G gWHOSE, rfl, fun _ => .inr ⟨_, _, _, lWHOSE, rfl, rfl, sWHOSE, vWHOSE⟩⟩
  refine ⟨PySem.W.fnOf "law" "law" (defArgs slaw) (defBody slaw) (defScope slaw) .none kV27 dc27 pm27 an27 cd27 ct27, fun s v => .of_eq rfl, fun base _ _ => ?_⟩
  have cis_name : Cal l.prog w K mg base 1 "is_name" ["thing"] spNameS := ⟨f1, _, ok_nameS F1 T W, PySem.W.mg_of X G a1, F1.kp, b1⟩
  have chead_of : Cal l.prog w K mg base 1 "head_of" ["row"] (spHead K) := ⟨f2, _, ok_head F2 W4, PySem.W.mg_of X G a2, F2.kp, b2⟩
  have cnumbers_of : Cal l.prog w K mg base 1 "numbers_of" ["row"] (spNums K) := ⟨f3, _, ok_nums F3 W4, PySem.W.mg_of X G a3, F3.kp, b3⟩
  have cwords_in : Cal l.prog w K mg base 2 "words_in" ["saying"] (spWin K) := ⟨f4, _, ok_win F4 T chead_of cnumbers_of, PySem.W.mg_of X G a4, F4.kp, b4⟩
  have ctext_of : CalX l.prog w K mg base 3 "text_of" ["saying"] (spText K S.R) := ⟨f5, _, ok_text F5 T S W3 chead_of cnumbers_of cwords_in, PySem.W.mg_of X G a5, F5.kp, b5⟩
  have chead_before : CalX l.prog w K mg base 2 "head_before" ["words", "at"] (spHB K S2.R) := ⟨f6, _, ok_hb F6 T W1.toWg S2 cis_name, PySem.W.mg_of X G a6, F6.kp, b6⟩
  have cread : CalX l.prog w K mg base 3 "read" ["text"] (spRead K S2.R) := ⟨f7, _, ok_read F7 T W1 S2 chead_before, PySem.W.mg_of X G a7, F7.kp, b7⟩
  have c_law_pool : Cal l.prog w K mg base 1 "_law_pool" ["_law_script"] (spPool K) := ⟨f8, _, ok_pool F8 , PySem.W.mg_of X G a8, F8.kp, b8⟩
  have c_law_draw : Cal l.prog w K mg base 1 "_law_draw" ["_law_pool_here", "_law_many"] spDraw := ⟨f9, _, ok_draw F9 T, PySem.W.mg_of X G a9, F9.kp, b9⟩
  have c_law_name : Cal l.prog w K mg base 2 "_law_name" ["_law_pool_here", "_law_start", "_law_taken"] spLName := ⟨f10, _, ok_lname F10 T c_law_draw, PySem.W.mg_of X G a10, F10.kp, b10⟩
  have c_law_names : Cal l.prog w K mg base 3 "_law_names" ["_law_pool_here", "_law_many"] spLNames := ⟨f11, _, ok_lnames F11 T c_law_draw c_law_name, PySem.W.mg_of X G a11, F11.kp, b11⟩
  have c_law_row : Cal l.prog w K mg base 2 "_law_row" ["_law_pool_here", "_law_names_here", "_law_at"] (spLRow K) := ⟨f12, _, ok_lrow F12 T c_law_draw, PySem.W.mg_of X G a12, F12.kp, b12⟩
  have c_law_saying : Cal l.prog w K mg base 3 "_law_saying" ["_law_pool_here", "_law_names_here", "_law_most"] (spSaying K) := ⟨f13, _, ok_saying F13 T c_law_draw c_law_row, PySem.W.mg_of X G a13, F13.kp, b13⟩
  have c_law_number : Cal l.prog w K mg base 1 "_law_number" ["_law_thing", "_law_low", "_law_high"] spLNum := ⟨f14, _, ok_lnum F14 T, PySem.W.mg_of X G a14, F14.kp, b14⟩
  have c_law_tuple : Cal l.prog w K mg base 1 "_law_tuple" ["_law_thing", "_law_least", "_law_most"] (spLTup K) := ⟨f15, _, ok_ltup F15 T, PySem.W.mg_of X G a15, F15.kp, b15⟩
  have c_law_good_name : Cal l.prog w K mg base 1 "_law_good_name" ["_law_thing"] spNameS := ⟨f16, _, ok_goodS F16 T, PySem.W.mg_of X G a16, F16.kp, b16⟩
  have c_law_same : Cal l.prog w K mg base 4 "_law_same" ["_law_found", "_law_due"] (spSW K) := ⟨f17, _, ok_sameA F17 T (PySem.W.mg_of X G a17) F17.kp b17, PySem.W.mg_of X G a17, F17.kp, b17⟩
  have c_law_many_parts : Cal l.prog w K mg base 1 "_law_many_parts" ["_law_word"] spParts := ⟨f18, _, ok_parts F18 , PySem.W.mg_of X G a18, F18.kp, b18⟩
  have c_law_can_stand : Cal l.prog w K mg base 2 "_law_can_stand" ["_law_thing", "_law_at"] (spCan K) := ⟨f19, _, ok_can F19 T c_law_tuple c_law_good_name c_law_number c_law_many_parts, PySem.W.mg_of X G a19, F19.kp, b19⟩
  have c_law_first_bad : Cal l.prog w K mg base 3 "_law_first_bad" ["_law_thing"] (spFB K) := ⟨f20, _, ok_fb F20 T c_law_tuple c_law_can_stand, PySem.W.mg_of X G a20, F20.kp, b20⟩
  have c_law_row_words : Cal l.prog w K mg base 1 "_law_row_words" ["_law_row_here"] (spRWords K) := ⟨f21, _, ok_rwords F21 T, PySem.W.mg_of X G a21, F21.kp, b21⟩
  have c_law_row_numbers : Cal l.prog w K mg base 1 "_law_row_numbers" ["_law_row_here"] (spRNums K) := ⟨f22, _, ok_rnums F22 T, PySem.W.mg_of X G a22, F22.kp, b22⟩
  have c_law_counts : Cal l.prog w K mg base 2 "_law_counts" ["_law_saying_here"] (spWin K) := ⟨f23, _, ok_lcounts F23 T c_law_row_words c_law_row_numbers, PySem.W.mg_of X G a23, F23.kp, b23⟩
  have c_law_text : Cal l.prog w K mg base 3 "_law_text" ["_law_saying_here"] (spLText K) := ⟨f24, _, ok_ltext F24 T c_law_counts c_law_row_words c_law_row_numbers, PySem.W.mg_of X G a24, F24.kp, b24⟩
  have c_law_head : Cal l.prog w K mg base 2 "_law_head" ["_law_words", "_law_k"] (spLH K) := ⟨f25, _, ok_lh F25 T c_law_good_name, PySem.W.mg_of X G a25, F25.kp, b25⟩
  have c_law_read : Cal l.prog w K mg base 3 "_law_read" ["_law_text_here"] (spLRead K) := ⟨f26, _, ok_lread F26 T c_law_head c_law_many_parts, PySem.W.mg_of X G a26, F26.kp, b26⟩
  exact ok_law F27 T S S2 c_law_pool c_law_names c_law_saying c_law_row_numbers c_law_counts c_law_text ctext_of c_law_first_bad c_law_read cread c_law_same
end Fx
open PySem PySem.W PyProof.Rows
set_option maxHeartbeats 0 in
theorem PySem.Challenge.cw_fairtrees_k15_whole_read_and_told_again_holds : PySem.Challenge.rw_fairtrees_k15_whole_read_and_told_again.Holds := by
  w_on; o_law; k_head; (case hw => w_witness2)
  k_fill
  refine L2.walk_of (l := PySem.Challenge.rw_fairtrees_k15_whole_read_and_told_again) (n := 63) (k := 5) (x := "_law_script") (CX := fun _ => L2.CX0) (sp := fun w => Fx.spLaw _) rfl (by decide) rfl ⟨rfl, by decide, by decide⟩ (fun w h Y => PySem.W.kIn_of Y) ?F (fun _ _ a ns hl _ hS => ⟨a, ns, rfl, hS, hl, fun _ => rfl⟩) (fun _ _ _ _ _ h => h)
  case F =>
    intro w mg fa h KX G hmg
    refine' Fx.all_mk KX G hmg ?a1 ?l1 ?c1 ?k1 ?a2 ?l2 ?c2 ?k2 ?a3 ?l3 ?c3 ?k3 ?a4 ?l4 ?c4 ?k4 ?a5 ?l5 ?c5 ?k5 ?a6 ?l6 ?c6 ?k6 ?a7 ?l7 ?c7 ?k7 ?a8 ?l8 ?c8 ?k8 ?a9 ?l9 ?c9 ?k9 ?a10 ?l10 ?c10 ?k10 ?a11 ?l11 ?c11 ?k11 ?a12 ?l12 ?c12 ?k12 ?a13 ?l13 ?c13 ?k13 ?a14 ?l14 ?c14 ?k14 ?a15 ?l15 ?c15 ?k15 ?a16 ?l16 ?c16 ?k16 ?a17 ?l17 ?c17 ?k17 ?a18 ?l18 ?c18 ?k18 ?a19 ?l19 ?c19 ?k19 ?a20 ?l20 ?c20 ?k20 ?a21 ?l21 ?c21 ?k21 ?a22 ?l22 ?c22 ?k22 ?a23 ?l23 ?c23 ?k23 ?a24 ?l24 ?c24 ?k24 ?a25 ?l25 ?c25 ?k25 ?a26 ?l26 ?c26 ?k26 ?a27 ?l27 ?c27 ?k27 ?z_ValueError ?z_tuple ?z_range ?z_isinstance ?z_bool ?z_int ?z_str ?z_len ?z_list ?z_min ?z_sum ?gWORDS ?lWORDS ?sWORDS ?vWORDS ?gWHOSE ?lWHOSE ?sWHOSE ?vWHOSE ?gLETTERS ?rLETTERS ?gLONGEST ?rLONGEST ?gWORDY ?rWORDY ?gPARTS ?lPARTS ?iPARTS ?wPARTS ?mPARTS ?ePARTS0 ?rPARTS0 ?ePARTS1 ?rPARTS1 ?ePARTS2 ?rPARTS2 ?ePARTS3 ?rPARTS3 ?ePARTS4 ?rPARTS4 ?ePARTS5 ?rPARTS5 ?gFORMS ?lFORMS ?iFORMS ?wFORMS ?mFORMS ?eFORMS0 ?rFORMS0 ?eFORMS1 ?rFORMS1 ?eFORMS2 ?rFORMS2 ?eFORMS3 ?rFORMS3 ?eFORMS4 ?rFORMS4 ?gXTooGreat ?kXTooGreat ?bXTooGreat ?tXTooGreat ?hXTooGreat ?gXNoText ?kXNoText ?bXNoText ?tXNoText ?hXNoText ?eX ?uX ?e1 ?e2 ?e3 ?e4 ?e5 ?e6 ?e7 ?e8 ?u1 ?u2 ?u3 ?u6 ?u7 ?u8
    (case a1 => k_is); (case l1 => k_is); (case c1 => k_is); (case k1 => k_is); (case a2 => k_is); (case l2 => k_is); (case c2 => k_is); (case k2 => k_is); (case a3 => k_is); (case l3 => k_is); (case c3 => k_is); (case k3 => k_is); (case a4 => k_is); (case l4 => k_is); (case c4 => k_is); (case k4 => k_is); (case a5 => k_is); (case l5 => k_is); (case c5 => k_is); (case k5 => k_is); (case a6 => k_is); (case l6 => k_is); (case c6 => k_is); (case k6 => k_is); (case a7 => k_is); (case l7 => k_is); (case c7 => k_is); (case k7 => k_is); (case a8 => k_is); (case l8 => k_is); (case c8 => k_is); (case k8 => k_is); (case a9 => k_is); (case l9 => k_is); (case c9 => k_is); (case k9 => k_is); (case a10 => k_is); (case l10 => k_is); (case c10 => k_is); (case k10 => k_is); (case a11 => k_is); (case l11 => k_is); (case c11 => k_is); (case k11 => k_is); (case a12 => k_is); (case l12 => k_is); (case c12 => k_is); (case k12 => k_is); (case a13 => k_is); (case l13 => k_is); (case c13 => k_is); (case k13 => k_is); (case a14 => k_is); (case l14 => k_is); (case c14 => k_is); (case k14 => k_is); (case a15 => k_is); (case l15 => k_is); (case c15 => k_is); (case k15 => k_is); (case a16 => k_is); (case l16 => k_is); (case c16 => k_is); (case k16 => k_is); (case a17 => k_is); (case l17 => k_is); (case c17 => k_is); (case k17 => k_is); (case a18 => k_is); (case l18 => k_is); (case c18 => k_is); (case k18 => k_is); (case a19 => k_is); (case l19 => k_is); (case c19 => k_is); (case k19 => k_is); (case a20 => k_is); (case l20 => k_is); (case c20 => k_is); (case k20 => k_is); (case a21 => k_is); (case l21 => k_is); (case c21 => k_is); (case k21 => k_is); (case a22 => k_is); (case l22 => k_is); (case c22 => k_is); (case k22 => k_is); (case a23 => k_is); (case l23 => k_is); (case c23 => k_is); (case k23 => k_is); (case a24 => k_is); (case l24 => k_is); (case c24 => k_is); (case k24 => k_is); (case a25 => k_is); (case l25 => k_is); (case c25 => k_is); (case k25 => k_is); (case a26 => k_is); (case l26 => k_is); (case c26 => k_is); (case k26 => k_is); (case a27 => k_is); (case l27 => k_is); (case c27 => k_is); (case k27 => k_is); (case z_ValueError => k_is); (case z_tuple => k_is); (case z_range => k_is); (case z_isinstance => k_is); (case z_bool => k_is); (case z_int => k_is); (case z_str => k_is); (case z_len => k_is); (case z_list => k_is); (case z_min => k_is); (case z_sum => k_is); (case gWORDS => k_is); (case lWORDS => k_is); (case gWHOSE => k_is); (case lWHOSE => k_is); (case gLETTERS => k_is); (case gLONGEST => k_is); (case gWORDY => k_is); (case gPARTS => k_is); (case lPARTS => k_is); (case ePARTS0 => k_is); (case ePARTS1 => k_is); (case ePARTS2 => k_is); (case ePARTS3 => k_is); (case ePARTS4 => k_is); (case ePARTS5 => k_is); (case gFORMS => k_is); (case lFORMS => k_is); (case eFORMS0 => k_is); (case eFORMS1 => k_is); (case eFORMS2 => k_is); (case eFORMS3 => k_is); (case eFORMS4 => k_is); (case gXTooGreat => k_is); (case kXTooGreat => k_is); (case bXTooGreat => k_is); (case tXTooGreat => k_is); (case hXTooGreat => k_is); (case gXNoText => k_is); (case kXNoText => k_is); (case bXNoText => k_is); (case tXNoText => k_is); (case hXNoText => k_is)
    (case sWORDS => decide)
    (case vWORDS => repeat (first | exact .nil | refine .cons ⟨_, rfl⟩ ?_))
    (case sWHOSE => decide)
    (case vWHOSE => repeat (first | exact .nil | refine .cons ⟨_, rfl⟩ ?_))
    (case rLETTERS => exact ⟨_, rfl⟩)
    (case rLONGEST => exact ⟨_, rfl⟩)
    (case rWORDY => exact ⟨_, rfl⟩)
    (case iPARTS => repeat (first | exact trivial | refine ⟨⟨_, _, rfl, rfl⟩, ?_⟩))
    (case wPARTS => decide)
    (case mPARTS => repeat (first | exact List.forall_mem_nil _ | refine List.forall_mem_cons.mpr ⟨⟨_, _, rfl, by decide +kernel⟩, ?_⟩))
    (case rPARTS0 => exact ⟨_, rfl⟩)
    (case rPARTS1 => exact ⟨_, rfl⟩)
    (case rPARTS2 => exact ⟨_, rfl⟩)
    (case rPARTS3 => exact ⟨_, rfl⟩)
    (case rPARTS4 => exact ⟨_, rfl⟩)
    (case rPARTS5 => exact ⟨_, rfl⟩)
    (case iFORMS => repeat (first | exact trivial | refine ⟨⟨_, _, rfl, rfl⟩, ?_⟩))
    (case wFORMS => decide)
    (case mFORMS => repeat (first | exact List.forall_mem_nil _ | refine List.forall_mem_cons.mpr ⟨⟨_, _, rfl, by decide +kernel⟩, ?_⟩))
    (case rFORMS0 => exact ⟨_, rfl⟩)
    (case rFORMS1 => exact ⟨_, rfl⟩)
    (case rFORMS2 => exact ⟨_, rfl⟩)
    (case rFORMS3 => exact ⟨_, rfl⟩)
    (case rFORMS4 => exact ⟨_, rfl⟩)
    (case eX => k_exc)
    (case uX => k_exc)
    (case e1 => first | rfl | k_is)
    (case e2 => first | rfl | k_is)
    (case e3 => first | rfl | k_is)
    (case e4 => first | rfl | k_is)
    (case e5 => first | rfl | k_is)
    (case e6 => first | rfl | k_is)
    (case e7 => first | rfl | k_is)
    (case e8 => first | rfl | k_is)
    (case u1 => first | rfl | k_is)
    (case u2 => first | rfl | k_is)
    (case u3 => first | rfl | k_is)
    (case u6 => first | rfl | k_is)
    (case u7 => first | rfl | k_is)
    (case u8 => first | rfl | k_is)
