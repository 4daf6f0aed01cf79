import PyProof.Rows.All
import Wide.All
import OpenK.AllK
import Wide.FinOn
import HandS.ForMost
import HandS.TupAny
import HandS.TupMul
import HandS.IsInst
import HandS.TupLe
import HandS.DictComp
import HandS.Conv
import HandS.Walk
import HandS.Evl
import KE.GoesMore
import PyProof.Draws
import PyProof.CollectIter
import PyProof.WalksMore
import PyProof.TupleOfSeq
import PyProof.DictMoreH
import HandS.DictTup
import HandS.TupLen
import HandS.Replace
import HandS.ReplaceLit
import HandS.Zip
import HandS.DictComp
import KE.KxIndex
import KE.KDictList
import HandS.Defaults
import HandS.MakeKwOnly
import HandS.Deep
import HandS.WordsExc
import HandS.ExcOwn
import HandS.TryOnly
import HandS.ExcIs
import HandS.SetKeys
import HandS.SetBool
import HandS.Style
import HandS.Text
import PySem.Challenge.RW_fairtrees_k18_whole_texts_of_machines
set_option Elab.async false
set_option linter.all false
set_option maxRecDepth 100000
set_option maxHeartbeats 4000000
namespace Fx
open PySem PySem.Spec PyProof.Rows L2
def topS (i : Nat) : Stmt := PySem.Challenge.pw_fairtrees_k18_whole_texts_of_machines.main.body.getD i (.Pass ⟨0, 0, 0, 0⟩)

/-! ### heaps, data, the pool of draws -/
/-- a def of the text as its callers see it -/
structure Cal (P : Program) (w : World) (K : PySem.W.Frag) (mg : Str → Option Value) (base : Heap) (k : Nat) (x : Str) (ps : List Str) (sp : Sp) where
  f : Addr
  fd : FuncData
  G : FnOk P w K mg base CX0 k f fd ps sp
  g : mg x = some (.ref f)
  kp : PySem.W.keepIn K (.ref f) = true
  b : Binds K fd ps []
theorem same_upd {H : Hp} {p : Addr} {o : HO} (h : H p = none) : Same H (upd H p o) := fun b x e => by
  rw [upd_ne (ne_of_none e h)]
  exact e
/-- an object that H does not know may change -/
theorem smut {H H' : Hp} {p : Addr} {o : HO} (e : Same H H') (h : H p = none) : Same H (upd H' p o) := fun a u ha => by
  rw [upd_ne (ne_of_none ha h)]
  exact e a u ha
/-- all tuples stand -/
def Imm (H H' : Hp) : Prop := ∀ a xs, Rd H a (.tup xs) → Rd H' a (.tup xs)
theorem Imm.refl (H : Hp) : Imm H H := fun _ _ h => h
theorem Imm.trans {H H1 H2 : Hp} (a : Imm H H1) (b : Imm H1 H2) : Imm H H2 := fun x xs h => b x xs (a x xs h)
theorem simm {H H' : Hp} (e : Same H H') : Imm H H' := fun a xs h => by
  rcases h with h | ⟨o, h⟩
  · exact .inl (e _ _ h)
  · exact .inr ⟨o, e _ _ h⟩
theorem Imm.sq {K : PySem.W.Frag} {H H' : Hp} {a : Addr} {xs : List V} (e : Imm H H') (h : SqT K H a xs) : SqT K H' a xs := by
  rcases h with h | h
  · exact .inl (e _ _ h)
  · exact .inr h
theorem ssqt {K : PySem.W.Frag} {H H' : Hp} {a : Addr} {xs : List V} (e : Same H H') (h : SqT K H a xs) : SqT K H' a xs := (simm e).sq h
/-- a list that changes is no tuple -/
theorem Imm.list {H : Hp} {p : Addr} {xs : List V} {o : HO} (h : H p = some (.lst xs)) : Imm H (upd H p o) := fun a ys e => by
  rcases e with e | ⟨u, e⟩
  · exact .inl (by rw [upd_ne (ne_of h e (by intro q; cases q)).symm]; exact e)
  · exact .inr ⟨u, by rw [upd_ne (ne_of h e (by intro q; cases q)).symm]; exact e⟩
theorem Imm.new {H : Hp} {p : Addr} {o : HO} (h : H p = none) : Imm H (upd H p o) := simm (same_upd h)
/-- a list of addresses, each a tuple of such things -/
inductive Each {α : Type} (R : Addr → α → Prop) : List Addr → List α → Prop where
  | nil : Each R [] []
  | cons {a : Addr} {as : List Addr} {x : α} {xs : List α} (h : R a x) (t : Each R as xs) : Each R (a :: as) (x :: xs)
theorem Each.imp {α : Type} {R S : Addr → α → Prop} (f : ∀ a x, R a x → S a x) : ∀ {as : List Addr} {xs : List α}, Each R as xs → Each S as xs
  | _, _, .nil => .nil
  | _, _, .cons h t => .cons (f _ _ h) (t.imp f)
theorem Each.len {α : Type} {R : Addr → α → Prop} : ∀ {as : List Addr} {xs : List α}, Each R as xs → as.length = xs.length
  | _, _, .nil => rfl
  | _, _, .cons _ t => by rw [List.length_cons, List.length_cons, t.len]
theorem Each.get {α : Type} {R : Addr → α → Prop} : ∀ {as : List Addr} {xs : List α} {i : Nat} {a : Addr}, Each R as xs → as[i]? = some a → ∃ x, xs[i]? = some x ∧ R a x
  | _, _, _, _, .nil, h => by simp at h
  | _, _, 0, _, .cons (x := x) r _, h => by
    have e := Option.some.inj h
    subst e
    exact ⟨x, rfl, r⟩
  | _, _, i + 1, _, .cons _ t, h => by
    obtain ⟨x, h1, h2⟩ := t.get (i := i) (by simpa using h)
    exact ⟨x, by simpa using h1, h2⟩
theorem Each.getx {α : Type} {R : Addr → α → Prop} : ∀ {as : List Addr} {xs : List α} {i : Nat} {x : α}, Each R as xs → xs[i]? = some x → ∃ a, as[i]? = some a ∧ R a x
  | _, _, _, _, .nil, h => by simp at h
  | _, _, 0, _, .cons (a := a) r _, h => by
    have e := Option.some.inj h
    subst e
    exact ⟨a, rfl, r⟩
  | _, _, i + 1, _, .cons _ t, h => by
    obtain ⟨x, h1, h2⟩ := t.getx (i := i) (by simpa using h)
    exact ⟨x, by simpa using h1, h2⟩
theorem Each.snoc {α : Type} {R : Addr → α → Prop} {a : Addr} {x : α} (r : R a x) : ∀ {as : List Addr} {xs : List α}, Each R as xs → Each R (as ++ [a]) (xs ++ [x])
  | _, _, .nil => .cons r .nil
  | _, _, .cons h t => .cons h (t.snoc r)
theorem map_get {α : Type} {f : α → V} {xs : List α} {i : Nat} {v : V} (h : (xs.map f)[i]? = some v) : ∃ x, xs[i]? = some x ∧ v = f x := by
  rw [List.getElem?_map] at h
  cases e : xs[i]? with
  | none =>
    rw [e] at h
    cases h
  | some x =>
    rw [e] at h
    exact ⟨x, rfl, (Option.some.inj h).symm⟩
theorem get_map {α : Type} {f : α → V} {xs : List α} {i : Nat} {x : α} (h : xs[i]? = some x) : (xs.map f)[i]? = some (f x) := by
  rw [List.getElem?_map, h]
  rfl
theorem notdec {p : Prop} [Decidable p] (h : (!decide p) = true) : ¬ p := by simpa using h
theorem dec_of {p : Prop} [Decidable p] (h : ¬ ((!decide p) = true)) : p := by simpa using h
theorem ixN_nat {n j : Nat} (hj : j < n) : ixN n (j : Int) = some j := by
  unfold ixN
  rw [if_pos (by omega), if_pos (by omega)]
  simp
theorem ixN0 {n : Nat} (h : 0 < n) : ixN n 0 = some 0 := ixN_nat (j := 0) h
theorem six0 {n : Nat} (h : 0 < n) : seqIndex? 0 n = some 0 := by
  unfold seqIndex?
  simp
  omega
theorem szOk {n : Nat} (h : n ≤ 100000) : n ≤ sizeLine := Nat.le_trans h (by decide)
theorem szLt {n : Nat} (h : n < 100000) : n < sizeLine := Nat.lt_of_lt_of_le h (by decide)
theorem ty_sqt {K : PySem.W.Frag} {H : Hp} {a : Addr} {xs : List V} (h : SqT K H a xs) : TyX K H (.ref a) (.type "tuple") := by
  rcases h with (h | ⟨o, h⟩) | ⟨o, its, n, hk, hc, _⟩
  · exact .base (.tup h)
  · exact .fTuple h
  · exact .kTuple hk hc
/-- the pool's addresses: itself, its great numbers, its small ones -/
structure PA where
  p : Addr
  g : Addr
  s : Addr
def Off (a : PA) (b : Addr) : Prop := b ≠ a.p ∧ b ≠ a.g ∧ b ≠ a.s
structure Pool (H : Hp) (a : PA) (c : Nat) : Prop where
  ex : ∃ (gs ss : List Int) (st ct : Int), H a.p = some (.lst [.ref a.g, .ref a.s, .int st, .int ct]) ∧ H a.g = some (.lst (gs.map V.int)) ∧ H a.s = some (.lst (ss.map V.int)) ∧
    gs.length ≤ 63 ∧ ss.length ≤ 63 ∧ 0 ≤ st ∧ st < 2147483647 ∧ 0 ≤ ct ∧ ct ≤ c ∧ a.s ≠ a.g
/-- all but the pool stands -/
def Kp (a : PA) (H H' : Hp) : Prop := ∀ b o, H b = some o → Off a b → H' b = some o
theorem Kp.refl {a : PA} (H : Hp) : Kp a H H := fun _ _ h _ => h
theorem Kp.trans {a : PA} {H H1 H2 : Hp} (x : Kp a H H1) (y : Kp a H1 H2) : Kp a H H2 := fun c o h n => y c o (x c o h n) n
theorem skp {a : PA} {H H' : Hp} (s : Same H H') : Kp a H H' := fun b o h _ => s b o h
theorem Kp.mut {a : PA} {H H' : Hp} {q : Addr} {o : HO} (e : Kp a H H') (h : H q = none) : Kp a H (upd H' q o) := fun b u hb n => by
  rw [upd_ne (ne_of_none hb h)]
  exact e b u hb n
theorem Kp.free {a : PA} {H H' : Hp} {l : Addr} (k : Kp a H H') (h : H' l = none) (n : Off a l) : H l = none := by
  cases e : H l with
  | none => rfl
  | some o =>
    rw [k l o e n] at h
    cases h
theorem Pool.mono {H : Hp} {a : PA} {c c' : Nat} (P : Pool H a c) (h : c ≤ c') : Pool H a c' := by
  obtain ⟨gs, ss, st, ct, a1, a2, a3, a4, a5, a6, a7, a8, a9, a10⟩ := P.ex
  exact ⟨gs, ss, st, ct, a1, a2, a3, a4, a5, a6, a7, a8, by omega, a10⟩
theorem Pool.same {H H' : Hp} {a : PA} {c : Nat} (P : Pool H a c) (e : Same H H') : Pool H' a c := by
  obtain ⟨gs, ss, st, ct, a1, a2, a3, a4, a5, a6, a7, a8, a9, a10⟩ := P.ex
  exact ⟨gs, ss, st, ct, e _ _ a1, e _ _ a2, e _ _ a3, a4, a5, a6, a7, a8, a9, a10⟩
theorem Pool.off {H : Hp} {a : PA} {b : Addr} {c : Nat} (P : Pool H a c) (h : H b = none) : Off a b := by
  obtain ⟨gs, ss, st, ct, a1, a2, a3, a4, a5, a6, a7, a8, a9, a10⟩ := P.ex
  exact ⟨(ne_of_none a1 h).symm, (ne_of_none a2 h).symm, (ne_of_none a3 h).symm⟩
/-- what is no list is none of the pool's -/
theorem Pool.offo {H : Hp} {a : PA} {b : Addr} {c : Nat} {o : HO} (P : Pool H a c) (h : H b = some o) (n : ∀ xs, o ≠ .lst xs) : Off a b := by
  obtain ⟨gs, ss, st, ct, a1, a2, a3, a4, a5, a6, a7, a8, a9, a10⟩ := P.ex
  exact ⟨(ne_of a1 h (n _).symm).symm, (ne_of a2 h (n _).symm).symm, (ne_of a3 h (n _).symm).symm⟩
theorem Pool.imm {H H' : Hp} {a : PA} {c : Nat} (P : Pool H a c) (k : Kp a H H') : Imm H H' := fun b xs h => by
  rcases h with h | ⟨o, h⟩
  · exact .inl (k _ _ h (P.offo h fun _ q => by cases q))
  · exact .inr ⟨o, k _ _ h (P.offo h fun _ q => by cases q)⟩
/-- an object beside the pool is laid or changed -/
theorem Pool.upd {H : Hp} {a : PA} {b : Addr} {c : Nat} {o : HO} (P : Pool H a c) (n : Off a b) : Pool (upd H b o) a c := by
  obtain ⟨gs, ss, st, ct, a1, a2, a3, a4, a5, a6, a7, a8, a9, a10⟩ := P.ex
  exact ⟨gs, ss, st, ct, by rw [upd_ne n.1.symm]; exact a1, by rw [upd_ne n.2.1.symm]; exact a2, by rw [upd_ne n.2.2.symm]; exact a3, a4, a5, a6, a7, a8, a9, a10⟩
/-! ### rules within a comprehension's block: the written part by its name -/
section
variable {X : Cx}
theorem ixL (K : PySem.W.Frag) (h : X.K = K := by rfl) : IxR X (rIxL K) := by subst h; exact ix_list
theorem ixT (K : PySem.W.Frag) (h : X.K = K := by rfl) : IxR X (rIxT K) := by subst h; exact ix_tup
theorem inS (K : PySem.W.Frag) (h : X.K = K := by rfl) : OpR X (compareOp .In) (rIn K false) := by subst h; exact op_in_seq
theorem ninS (K : PySem.W.Frag) (h : X.K = K := by rfl) : OpR X (compareOp .NotIn) (rIn K true) := by subst h; exact op_notIn_seq
theorem lenS (K : PySem.W.Frag) (h : X.K = K := by rfl) : CallR X (.builtin "len") (fun xs H Q => ∃ p ys, xs = [.ref p] ∧ (SqL K H p ys ∨ SqT K H p ys) ∧ Q (.int ys.length) H) := by subst h; exact call_len_seq
theorem isiK (K : PySem.W.Frag) (h : X.K = K := by rfl) : CallR X (.builtin "isinstance") (rIsi K) := by subst h; exact call_isi
theorem tupOf (K : PySem.W.Frag) (h : X.K = K := by rfl) : CallR X (.type "tuple") (fun xs H Q => ∃ p ys, xs = [.ref p] ∧ ((SqL K H p ys ∧ ∀ l, H l = none → Q (.ref l) (upd H l (.tup ys))) ∨ (SqT K H p ys ∧ Q (.ref p) H))) := by subst h; exact call_tuple_of
theorem slL (K : PySem.W.Frag) (h : X.K = K := by rfl) : SlR X (rSlL K) := by subst h; exact sl_list
theorem slA (K : PySem.W.Frag) (h : X.K = K := by rfl) : SlR X (rSlA K) := by subst h; exact sl_tupA
theorem catA (K : PySem.W.Frag) (h : X.K = K := by rfl) : OpR X (binaryOp .Add) (rCatA K) := by subst h; exact op_catA
theorem sortS (K : PySem.W.Frag) (h : X.K = K := by rfl) : CallR X (.builtin "sorted") (rSortedS K) := by subst h; exact cr_sortedS
theorem sortI (K : PySem.W.Frag) (h : X.K = K := by rfl) : CallR X (.builtin "sorted") (rSorted K) := by subst h; exact cr_sorted
end
/-! ### comprehensions: what holds of the list so far -/
section
variable {K : PySem.W.Frag}
/-- over a range, its turns drawing from the pool (k draws a turn) -/
theorem lc_rangeP {lo : Int} {n j : Nat} {tt : TT} {te : TE} {vs : List Nat} {σ : L2.St} {H1 : Hp} {D : Addr} {Qd : Hp → Prop} {a : PA} {c0 : Nat} (k : Nat) (ok : Nat → List V → Prop)
    (P0 : Pool H1 a c0) (hD : H1 D = none) (hn : n ≤ 100000) (h0 : ok 0 []) (hw : ∀ x, wipe ((wipe σ vs).set j (some x)) vs = wipe σ vs)
    (turn : ∀ (i : Nat) (H : Hp) (acc : List V), i < n → Pool H a (c0 + i * k) → Kp a H1 H → ok i acc → acc.length ≤ i → ∀ (N1 : V → Hp → Prop) (N2 : Hp → Prop),
      (∀ y H', Pool H' a (c0 + i * k + k) → Kp a H H' → ok (i + 1) (acc ++ [y]) → N1 y H') → (∀ H', Pool H' a (c0 + i * k + k) → Kp a H H' → ok (i + 1) acc → N2 H') →
      tt ((wipe σ vs).set j (some (.int (lo + i)))) H fun b H3 => if b = true then te ((wipe σ vs).set j (some (.int (lo + i)))) H3 N1 else N2 H3)
    (done : ∀ (H : Hp) (acc : List V), Pool H a (c0 + n * k) → Kp a H1 H → H D = some (.lst acc) → acc.length ≤ n → ok n acc → Off a D → Qd H) :
    ∃ W : Nat → Nat → Hp → Prop, (∃ m, W 0 m (upd H1 D (.lst []))) ∧ ∀ i m H, W i m H →
      ((Itr lo n).stop i H ∧ Qd H) ∨ ((Itr lo n).go i H ∧ ∃ Nx : Hp → Prop, (∀ H', Nx H' → ∃ m', m' < m ∧ W (i + 1) m' H') ∧ ∀ x H', (Itr lo n).yld i H x H' → (gName j) x (wipe σ vs) H' fun σ2 H2 => wipe σ2 vs = wipe σ vs ∧ tt σ2 H2 fun b H3 =>
        if b = true then te σ2 H3 fun y H4 => ∃ acc, H4 D = some (.lst acc) ∧ acc.length < sizeLine ∧ Nx (upd H4 D (.lst (acc ++ [y]))) else Nx H3) := by
  have oD : Off a D := P0.off hD
  refine lc_range (lo := lo) (n := n) (fun i H => ∃ acc, Pool H a (c0 + i * k) ∧ Kp a H1 H ∧ H D = some (.lst acc) ∧ acc.length ≤ i ∧ ok i acc) ⟨[], ?_, skp (same_upd hD), upd_same, Nat.le_refl _, h0⟩ (fun i H hi p => ?_) (fun H p => ?_)
  · rw [Nat.zero_mul]
    exact P0.upd oD
  · obtain ⟨acc, p1, p2, p3, p4, p5⟩ := p
    refine ⟨hw _, turn i H acc hi p1 p2 p5 p4 _ _ (fun y H' q1 q2 q3 => ⟨acc, q2 _ _ p3 oD, szLt (by omega), acc ++ [y], ?_, ?_, upd_same, ?_, q3⟩) (fun H' q1 q2 q3 => ⟨acc, ?_, p2.trans q2, q2 _ _ p3 oD, by omega, q3⟩)⟩
    · rw [Nat.succ_mul, ← Nat.add_assoc]
      exact q1.upd oD
    · exact Kp.mut (p2.trans q2) hD
    · rw [List.length_append]
      show acc.length + 1 ≤ i + 1
      omega
    · rw [Nat.succ_mul, ← Nat.add_assoc]
      exact q1
  · obtain ⟨acc, p1, p2, p3, p4, p5⟩ := p
    exact done H acc p1 p2 p3 p4 p5 oD
/-- over a walked thing, its turns changing nothing that stood -/
theorem lc_rangeS {lo : Int} {n j : Nat} {tt : TT} {te : TE} {vs : List Nat} {σ : L2.St} {H1 : Hp} {D : Addr} {Qd : Hp → Prop} (ok : Nat → List V → Prop)
    (hD : H1 D = none) (hn : n ≤ 100000) (h0 : ok 0 []) (hw : ∀ x, wipe ((wipe σ vs).set j (some x)) vs = wipe σ vs)
    (turn : ∀ (i : Nat) (H : Hp) (acc : List V), i < n → Same H1 H → ok i acc → acc.length ≤ i → ∀ (N1 : V → Hp → Prop) (N2 : Hp → Prop),
      (∀ y H', Same H H' → ok (i + 1) (acc ++ [y]) → N1 y H') → (∀ H', Same H H' → ok (i + 1) acc → N2 H') →
      tt ((wipe σ vs).set j (some (.int (lo + i)))) H fun b H3 => if b = true then te ((wipe σ vs).set j (some (.int (lo + i)))) H3 N1 else N2 H3)
    (done : ∀ (H : Hp) (acc : List V), Same H1 H → H D = some (.lst acc) → acc.length ≤ n → ok n acc → Qd H) :
    ∃ W : Nat → Nat → Hp → Prop, (∃ m, W 0 m (upd H1 D (.lst []))) ∧ ∀ i m H, W i m H →
      ((Itr lo n).stop i H ∧ Qd H) ∨ ((Itr lo n).go i H ∧ ∃ Nx : Hp → Prop, (∀ H', Nx H' → ∃ m', m' < m ∧ W (i + 1) m' H') ∧ ∀ x H', (Itr lo n).yld i H x H' → (gName j) x (wipe σ vs) H' fun σ2 H2 => wipe σ2 vs = wipe σ vs ∧ tt σ2 H2 fun b H3 =>
        if b = true then te σ2 H3 fun y H4 => ∃ acc, H4 D = some (.lst acc) ∧ acc.length < sizeLine ∧ Nx (upd H4 D (.lst (acc ++ [y]))) else Nx H3) := by
  refine lc_range (lo := lo) (n := n) (fun i H => ∃ acc, Same H1 H ∧ H D = some (.lst acc) ∧ acc.length ≤ i ∧ ok i acc) ⟨[], same_upd hD, upd_same, Nat.le_refl _, h0⟩ (fun i H hi p => ?_) (fun H p => ?_)
  · obtain ⟨acc, p2, p3, p4, p5⟩ := p
    refine ⟨hw _, turn i H acc hi p2 p5 p4 _ _ (fun y H' q2 q3 => ⟨acc, q2 _ _ p3, szLt (by omega), acc ++ [y], smut (p2.trans q2) hD, upd_same, ?_, q3⟩) (fun H' q2 q3 => ⟨acc, p2.trans q2, q2 _ _ p3, by omega, q3⟩)⟩
    rw [List.length_append]
    show acc.length + 1 ≤ i + 1
    omega
  · obtain ⟨acc, p2, p3, p4, p5⟩ := p
    exact done H acc p2 p3 p4 p5
theorem lc_listS {a : Addr} {xs : List V} {j : Nat} {tt : TT} {te : TE} {vs : List Nat} {σ : L2.St} {H1 : Hp} {D : Addr} {Qd : Hp → Prop} (ok : Nat → List V → Prop)
    (hx : SqL K H1 a xs) (hD : H1 D = none) (hn : xs.length ≤ 100000) (h0 : ok 0 []) (hw : ∀ x, wipe ((wipe σ vs).set j (some x)) vs = wipe σ vs)
    (turn : ∀ (i : Nat) (x : V) (H : Hp) (acc : List V), xs[i]? = some x → Same H1 H → ok i acc → acc.length ≤ i → ∀ (N1 : V → Hp → Prop) (N2 : Hp → Prop),
      (∀ y H', Same H H' → ok (i + 1) (acc ++ [y]) → N1 y H') → (∀ H', Same H H' → ok (i + 1) acc → N2 H') →
      tt ((wipe σ vs).set j (some x)) H fun b H3 => if b = true then te ((wipe σ vs).set j (some x)) H3 N1 else N2 H3)
    (done : ∀ (H : Hp) (acc : List V), Same H1 H → H D = some (.lst acc) → acc.length ≤ xs.length → ok xs.length acc → Qd H) :
    ∃ W : Nat → Nat → Hp → Prop, (∃ m, W 0 m (upd H1 D (.lst []))) ∧ ∀ i m H, W i m H →
      ((Itl K a).stop i H ∧ Qd H) ∨ ((Itl K a).go i H ∧ ∃ Nx : Hp → Prop, (∀ H', Nx H' → ∃ m', m' < m ∧ W (i + 1) m' H') ∧ ∀ x H', (Itl K a).yld i H x H' → (gName j) x (wipe σ vs) H' fun σ2 H2 => wipe σ2 vs = wipe σ vs ∧ tt σ2 H2 fun b H3 =>
        if b = true then te σ2 H3 fun y H4 => ∃ acc, H4 D = some (.lst acc) ∧ acc.length < sizeLine ∧ Nx (upd H4 D (.lst (acc ++ [y]))) else Nx H3) := by
  refine lc_list (xs := xs) (fun i H => ∃ acc, Same H1 H ∧ H D = some (.lst acc) ∧ acc.length ≤ i ∧ ok i acc) ⟨[], same_upd hD, upd_same, Nat.le_refl _, h0⟩ (fun i H _ p => ?_) (fun i x H hi p => ?_) (fun H p => ?_)
  · obtain ⟨acc, p2, _⟩ := p
    exact p2.seq hx
  · obtain ⟨acc, p2, p3, p4, p5⟩ := p
    have hil : i < xs.length := (List.getElem?_eq_some_iff.mp hi).1
    refine ⟨hw _, turn i x H acc hi p2 p5 p4 _ _ (fun y H' q2 q3 => ⟨acc, q2 _ _ p3, szLt (by omega), acc ++ [y], smut (p2.trans q2) hD, upd_same, ?_, q3⟩) (fun H' q2 q3 => ⟨acc, p2.trans q2, q2 _ _ p3, by omega, q3⟩)⟩
    rw [List.length_append]
    show acc.length + 1 ≤ i + 1
    omega
  · obtain ⟨acc, p2, p3, p4, p5⟩ := p
    exact done H acc p2 p3 p4 p5
theorem lc_tupS {a : Addr} {xs : List V} {j : Nat} {tt : TT} {te : TE} {vs : List Nat} {σ : L2.St} {H1 : Hp} {D : Addr} {Qd : Hp → Prop} (ok : Nat → List V → Prop)
    (hx : SqT K H1 a xs) (hD : H1 D = none) (hn : xs.length ≤ 100000) (h0 : ok 0 []) (hw : ∀ x, wipe ((wipe σ vs).set j (some x)) vs = wipe σ vs)
    (turn : ∀ (i : Nat) (x : V) (H : Hp) (acc : List V), xs[i]? = some x → Same H1 H → ok i acc → acc.length ≤ i → ∀ (N1 : V → Hp → Prop) (N2 : Hp → Prop),
      (∀ y H', Same H H' → ok (i + 1) (acc ++ [y]) → N1 y H') → (∀ H', Same H H' → ok (i + 1) acc → N2 H') →
      tt ((wipe σ vs).set j (some x)) H fun b H3 => if b = true then te ((wipe σ vs).set j (some x)) H3 N1 else N2 H3)
    (done : ∀ (H : Hp) (acc : List V), Same H1 H → H D = some (.lst acc) → acc.length ≤ xs.length → ok xs.length acc → Qd H) :
    ∃ W : Nat → Nat → Hp → Prop, (∃ m, W 0 m (upd H1 D (.lst []))) ∧ ∀ i m H, W i m H →
      ((Itt K a).stop i H ∧ Qd H) ∨ ((Itt K a).go i H ∧ ∃ Nx : Hp → Prop, (∀ H', Nx H' → ∃ m', m' < m ∧ W (i + 1) m' H') ∧ ∀ x H', (Itt K a).yld i H x H' → (gName j) x (wipe σ vs) H' fun σ2 H2 => wipe σ2 vs = wipe σ vs ∧ tt σ2 H2 fun b H3 =>
        if b = true then te σ2 H3 fun y H4 => ∃ acc, H4 D = some (.lst acc) ∧ acc.length < sizeLine ∧ Nx (upd H4 D (.lst (acc ++ [y]))) else Nx H3) := by
  refine lc_tup (xs := xs) (fun i H => ∃ acc, Same H1 H ∧ H D = some (.lst acc) ∧ acc.length ≤ i ∧ ok i acc) ⟨[], same_upd hD, upd_same, Nat.le_refl _, h0⟩ (fun i H _ p => ?_) (fun i x H hi p => ?_) (fun H p => ?_)
  · obtain ⟨acc, p2, _⟩ := p
    exact ssqt p2 hx
  · obtain ⟨acc, p2, p3, p4, p5⟩ := p
    have hil : i < xs.length := (List.getElem?_eq_some_iff.mp hi).1
    refine ⟨hw _, turn i x H acc hi p2 p5 p4 _ _ (fun y H' q2 q3 => ⟨acc, q2 _ _ p3, szLt (by omega), acc ++ [y], smut (p2.trans q2) hD, upd_same, ?_, q3⟩) (fun H' q2 q3 => ⟨acc, p2.trans q2, q2 _ _ p3, by omega, q3⟩)⟩
    rw [List.length_append]
    show acc.length + 1 ≤ i + 1
    omega
  · obtain ⟨acc, p2, p3, p4, p5⟩ := p
    exact done H acc p2 p3 p4 p5
end

/-- what the top leaves of the names that the text reads -/
structure Bi (mg : Str → Option Value) : Prop where
  ValueError : mg "ValueError" = none
  len : mg "len" = none
  zip : mg "zip" = none
  range : mg "range" = none
  isinstance : mg "isinstance" = none
  tuple : mg "tuple" = none
  bool : mg "bool" = none
  int : mg "int" = none
  str : mg "str" = none
  sorted : mg "sorted" = none
  list : mg "list" = none

/-! ### _law_pool, _law_draw -/
abbrev s_law_pool : Stmt := topS 19
theorem sc_law_pool : FnScope ["_law_script", "_law_great", "_law_cell"] ["_law_script"] (defScope s_law_pool) := ⟨rfl, rfl, rfl, by decide +kernel, rfl, by decide +kernel, by decide +kernel⟩
abbrev s_law_draw : Stmt := topS 20
theorem sc_law_draw : FnScope ["_law_pool_here", "_law_many", "_law_cell"] ["_law_pool_here", "_law_many"] (defScope s_law_draw) := ⟨rfl, rfl, rfl, by decide +kernel, rfl, by decide +kernel, by decide +kernel⟩
section
variable {P : Program} {w : World} {K : PySem.W.Frag} {mg : Str → Option Value} {base : Heap}
def spPool (K : PySem.W.Frag) : Sp := fun vs H Q _ => ∃ (l : Addr) (ns : List Int), vs = [.ref l] ∧ SqL K H l (ns.map V.int) ∧ ns.length ≤ 63 ∧ ∀ H' a, Same H H' → Pool H' a 0 → Q (.ref a.p) H'
theorem ok_pool {f : Addr} {fd : FuncData} (F : Fun K "_law_pool" "_law_pool" s_law_pool f fd) : FnOk P w K mg base CX0 1 f fd ["_law_script"] (spPool K) := by
  refine F.ok sc_law_pool (fun vs H Q E h => ?_) (fun cdv A outer s H vs Q E hr h => ?_)
  · obtain ⟨l, ns, rfl, _⟩ := h
    rfl
  · obtain ⟨l, ns, rfl, hS, hlen, q⟩ := h
    refine ⟨_, (pss_cons (ps_setLc (i := 1) (own := [("_law_cell", 2)]) (g := gName 2) (by rfl) sc_law_pool.nd rfl rfl (sw_true rfl rfl rfl (by decide +kernel)) (pi_list (pv 0)) (blkOk_by (own := [("_law_cell", 2)]) (N := ["_law_script", "_law_great", "_law_cell"]) (sc := defScope s_law_pool) (by decide +kernel)) (fun _ _ _ _ _ => (pg_name (i := 2) sc_law_pool.nd rfl (.inl rfl))) (fun _ _ _ _ _ => (pts_one (pt_cmpR op_ge (pv 2) (pe_op op_pow pe_int pe_int) (nomark _)))) (fun _ _ _ _ _ => (pv 2)))
      (pss_one (ps_ret (pe_lst (pa_cons (pv 1) (pa_cons (pe_lc (own := [("_law_cell", 2)]) (g := gName 2) rfl sc_law_pool.nd (pi_list (pv 0)) (blkOk_by (own := [("_law_cell", 2)]) (N := ["_law_script", "_law_great", "_law_cell"]) (sc := defScope s_law_pool) (by decide +kernel)) (fun _ _ _ _ _ => (pg_name (i := 2) sc_law_pool.nd rfl (.inl rfl))) (fun _ _ _ _ _ => (pts_one (pt_cmpR op_lt (pv 2) (pe_op op_pow pe_int pe_int) (nomark _)))) (fun _ _ _ _ _ => (pv 2))) (pa_cons pe_int (pa_cons pe_int pa_nil)))))))), ?_⟩
    refine ⟨_, rfl, l, rfl, ⟨_, hS⟩, fun D hD => lc_listS (K := K) (a := l) (xs := ns.map V.int) (fun i acc => ∃ gs : List Int, acc = gs.map V.int) hS hD (by rw [List.length_map]; omega) ⟨[], rfl⟩ (fun _ => rfl) ?_ ?_⟩
    · intro i x H1 acc hx s1 ⟨gs, hg⟩ _ N1 N2 k1 k2
      obtain ⟨z, hz, rfl⟩ := map_get hx
      refine ⟨_, rfl, _, _, rfl, rfl, ⟨by decide, by decide, by decide⟩, _, _, rfl, rfl, _, rfl, ite2 (fun e => ?_) (fun e => ?_)⟩
      · exact ⟨_, rfl, k1 _ _ (Same.refl _) ⟨gs ++ [z], by rw [hg, List.map_append]; rfl⟩⟩
      · exact k2 _ (Same.refl _) ⟨gs, hg⟩
    · intro H1 acc s1 hD1 la ⟨gs, hg⟩
      subst hg
      have hS1 : SqL K H1 l (ns.map V.int) := s1.seq hS
      refine ⟨_, rfl, _, rfl, l, rfl, ⟨_, hS1⟩, fun D2 hD2 => lc_listS (K := K) (a := l) (xs := ns.map V.int) (fun i acc => ∃ gs : List Int, acc = gs.map V.int) hS1 hD2 (by rw [List.length_map]; omega) ⟨[], rfl⟩ (fun _ => rfl) ?_ ?_⟩
      · intro i x H2 acc hx s2 ⟨gs, hg⟩ _ N1 N2 k1 k2
        obtain ⟨z, hz, rfl⟩ := map_get hx
        refine ⟨_, rfl, _, _, rfl, rfl, ⟨by decide, by decide, by decide⟩, _, _, rfl, rfl, _, rfl, ite2 (fun e => ?_) (fun e => ?_)⟩
        · exact ⟨_, rfl, k1 _ _ (Same.refl _) ⟨gs ++ [z], by rw [hg, List.map_append]; rfl⟩⟩
        · exact k2 _ (Same.refl _) ⟨gs, hg⟩
      · intro H2 acc s2 hD2' la2 ⟨ss, hs⟩
        subst hs
        refine ⟨by show 4 ≤ sizeLine; decide, fun p hp => q _ ⟨p, D, D2⟩ ((s1.trans s2).trans (same_upd hp)) ⟨gs, ss, 5, 0, upd_same, ?_, ?_, ?_, ?_, by decide, by decide, by decide, by decide, ?_⟩⟩
        · show upd H2 p _ D = _
          rw [upd_ne (ne_of_none (s2 _ _ hD1) hp)]
          exact s2 _ _ hD1
        · show upd H2 p _ D2 = _
          rw [upd_ne (ne_of_none hD2' hp)]
          exact hD2'
        · rw [List.length_map, List.length_map] at la
          omega
        · rw [List.length_map, List.length_map] at la2
          omega
        · exact (ne_of_none hD1 hD2).symm
def spDraw : Sp := fun vs H Q _ => ∃ (a : PA) (c : Nat) (m : Int), vs = [.ref a.p, .int m] ∧ Pool H a c ∧ c < 1000000 ∧ 0 < m ∧ m < 1073741824 ∧
  ∀ H' r, 0 ≤ r → r < m → Pool H' a (c + 1) → Kp a H H' → Q (.int r) H'
theorem ok_draw {f : Addr} {fd : FuncData} (F : Fun K "_law_draw" "_law_draw" s_law_draw f fd) (T : Bi mg) : FnOk P w K mg base CX0 1 f fd ["_law_pool_here", "_law_many"] spDraw := by
  refine F.ok sc_law_draw (fun vs H Q E h => ?_) (fun cdv A outer s H vs Q E hr h => ?_)
  · obtain ⟨a, c, m, rfl, _⟩ := h
    rfl
  · obtain ⟨⟨p, g, s⟩, c, m, rfl, PP, hc, hm0, hm1, q⟩ := h
    obtain ⟨gs, ss, st, ct, a1, a2, a3, a4, a5, a6, a7, a8, a9, a10⟩ := PP.ex
    have npg : p ≠ g := ne_of a1 a2 (by intro q; have := HO.lst.inj q; cases gs <;> cases this)
    have nps : p ≠ s := ne_of a1 a3 (by intro q; have := HO.lst.inj q; cases ss <;> cases this)
    refine ⟨_, (pss_cons (ps_if (pt_cmpR op_gt (pe_callB call_len_seq (by rfl) T.len PySem.boot_len (pa_cons (pe_ix ix_list (pv 0) pe_int (fun _ _ => rfl)) pa_nil)) pe_int (nomark _))
        (pss_cons (ps_set (i := 2) sc_law_draw.nd rfl (.inl rfl) (pe_ix ix_list (pe_ix ix_list (pv 0) pe_int (fun _ _ => rfl)) pe_int (fun _ _ => rfl)))
        (pss_cons (ps_asg (pe_op op_fdiv (pv 2) (pv 1)) (pg_sub (pe_ix ix_list (pv 0) pe_int (fun _ _ => rfl)) pe_int set_list))
        (pss_cons (ps_if (pt_cmpR op_eq (pe_op op_fdiv (pv 2) (pv 1)) pe_int (nomark _))
          (pss_one (ps_expr (pe_bm PySem.F.plainAttrs_list PySem.F.slot_list_pop PySem.F.type_list_pop mt_popAt (pe_ix ix_list (pv 0) pe_int (fun _ _ => rfl)) (pa_cons pe_int pa_nil))))
          pss_nil)
        (pss_one (ps_ret (pe_op op_mod (pv 2) (pv 1)))))))
        pss_nil)
      (pss_cons (ps_asg (pe_op op_add (pe_ix ix_list (pv 0) pe_int (fun _ _ => rfl)) pe_int) (pg_sub (pv 0) pe_int set_list))
      (pss_cons (ps_set (i := 2) sc_law_draw.nd rfl (.inl rfl) pe_int)
      (pss_cons (ps_if (pt_cmpR op_gt (pe_callB call_len_seq (by rfl) T.len PySem.boot_len (pa_cons (pe_ix ix_list (pv 0) pe_int (fun _ _ => rfl)) pa_nil)) pe_int (nomark _))
        (pss_one (ps_set (i := 2) sc_law_draw.nd rfl (.inl rfl) (pe_ix ix_list (pe_ix ix_list (pv 0) pe_int (fun _ _ => rfl)) (pe_op op_mod (pe_ix ix_list (pv 0) pe_int (fun _ _ => rfl)) (pe_callB call_len_seq (by rfl) T.len PySem.boot_len (pa_cons (pe_ix ix_list (pv 0) pe_int (fun _ _ => rfl)) pa_nil))) (fun _ _ => rfl))))
        pss_nil)
      (pss_cons (ps_set (i := 2) sc_law_draw.nd rfl (.inl rfl) (pe_op op_mul (pe_op op_mod (pv 2) pe_int) (pe_op op_add (pe_op op_mul (pe_ix ix_list (pv 0) pe_int (fun _ _ => rfl)) (pe_ix ix_list (pv 0) pe_int (fun _ _ => rfl))) pe_int)))
      (pss_cons (ps_asg (pe_op op_mod (pe_op op_add (pe_op op_add (pe_op op_mul (pe_ix ix_list (pv 0) pe_int (fun _ _ => rfl)) pe_int) (pv 2)) (pe_op op_mul pe_int (pe_ix ix_list (pv 0) pe_int (fun _ _ => rfl)))) pe_int) (pg_sub (pv 0) pe_int set_list))
      (pss_one (ps_ret (pe_op op_mod (pe_op op_fdiv (pe_op op_mod (pe_op op_pow (pe_ix ix_list (pv 0) pe_int (fun _ _ => rfl)) pe_int) pe_int) pe_int) (pv 1)))))))))), ?_⟩
    -- if len(pool[0]) > 0
    refine ⟨_, rfl, p, _, _, _, rfl, rfl, SqL.of a1, at_of (j := 0) rfl rfl, g, _, rfl, .inl (SqL.of a2), _, _, rfl, rfl, _, rfl, ite2 (fun e => ?_) (fun e => ?_)⟩
    · obtain ⟨z, r, rfl⟩ : ∃ z r, gs = z :: r := by
        cases gs with
        | nil => exact absurd e (by decide)
        | cons z r => exact ⟨z, r, rfl⟩
      refine ⟨_, rfl, p, _, _, _, rfl, rfl, SqL.of a1, at_of (j := 0) rfl rfl, g, _, _, .int z, rfl, rfl, SqL.of a2, at_of (j := 0) rfl rfl, ?_⟩
      have a1' : ∀ o, upd H g o p = some (.lst [.ref g, .ref s, .int st, .int ct]) := fun o => by
        rw [upd_ne npg]
        exact a1
      have a3' : ∀ o, upd H g o s = some (.lst (ss.map V.int)) := fun o => by
        rw [upd_ne a10]
        exact a3
      refine ⟨_, rfl, _, rfl, _, _, rfl, rfl, ⟨hm0, hm1⟩, _, rfl, p, _, _, _, rfl, rfl, SqL.of a1, at_of (j := 0) rfl rfl, g, _, 0, 0, rfl, rfl, a2, ixN0 (by simp), ?_⟩
      refine ⟨_, rfl, _, rfl, _, _, rfl, rfl, ⟨hm0, hm1⟩, rfl, _, rfl, ite2 (fun e0 => ?_) (fun e0 => ?_)⟩
      · refine ⟨_, rfl, p, _, _, _, rfl, rfl, SqL.of (a1' _), at_of (j := 0) rfl rfl, .inl ⟨rfl, _, SqL.of upd_same⟩, g, _, 0, 0, _, rfl, rfl, upd_same, by decide, by decide, six0 (by simp), rfl, ?_⟩
        refine ⟨_, rfl, _, rfl, _, _, rfl, rfl, hm0, ?_⟩
        refine q _ _ (Int.emod_nonneg _ (by omega)) (Int.emod_lt_of_pos _ hm0) ⟨r, ss, st, ct, ?_, ?_, ?_, ?_, a5, a6, a7, a8, by omega, a10⟩ (fun b o hb n => ?_)
        · rw [upd_upd]
          exact a1' _
        · show upd _ g _ g = _
          rw [upd_same]
          rfl
        · rw [upd_upd]
          exact a3' _
        · simp at a4
          omega
        · rw [upd_ne n.2.1, upd_ne n.2.1]
          exact hb
      · refine ⟨_, rfl, _, rfl, _, _, rfl, rfl, hm0, ?_⟩
        refine q _ _ (Int.emod_nonneg _ (by omega)) (Int.emod_lt_of_pos _ hm0) ⟨(z / m) :: r, ss, st, ct, a1' _, ?_, a3' _, ?_, a5, a6, a7, a8, by omega, a10⟩ (fun b o hb n => ?_)
        · show upd _ g _ g = _
          rw [upd_same]
          rfl
        · simpa using a4
        · rw [upd_ne n.2.1]
          exact hb
    · -- pool[3] = pool[3] + 1
      refine ⟨_, rfl, p, _, _, _, rfl, rfl, SqL.of a1, at_of (j := 3) rfl rfl, _, _, rfl, rfl, _, rfl, p, _, 3, 3, rfl, rfl, a1, rfl, ?_⟩
      have w1 : upd H p (.lst [.ref g, .ref s, .int st, .int (ct + 1)]) p = some (.lst [.ref g, .ref s, .int st, .int (ct + 1)]) := upd_same
      have w2 : ∀ o, upd H p o g = some (.lst (gs.map V.int)) := fun o => by
        rw [upd_ne npg.symm]
        exact a2
      have w3 : ∀ o, upd H p o s = some (.lst (ss.map V.int)) := fun o => by
        rw [upd_ne nps.symm]
        exact a3
      -- cell = 0; if len(pool[1]) > 0
      refine ⟨_, rfl, p, _, _, _, rfl, rfl, SqL.of w1, at_of (j := 1) rfl rfl, s, _, rfl, .inl (SqL.of (w3 _)), _, _, rfl, rfl, _, rfl, ite2 (fun e => ?_) (fun e => ?_)⟩
      · have l0 : 0 < ss.length := by
          have := of_decide_eq_true e
          simpa using this
        have l1 : 0 ≤ (ct + 1) % (ss.length : Int) := Int.emod_nonneg _ (by omega)
        have l2 : (ct + 1) % (ss.length : Int) < ss.length := Int.emod_lt_of_pos _ (by omega)
        obtain ⟨j, ej⟩ : ∃ j : Nat, (ct + 1) % (ss.length : Int) = (j : Int) := ⟨_, (Int.toNat_of_nonneg l1).symm⟩
        have hj : j < ss.length := by omega
        have gj : (ss.map V.int)[j]? = some (.int ss[j]) := get_map (List.getElem?_eq_getElem hj)
        refine ⟨_, rfl, p, _, _, _, rfl, rfl, SqL.of w1, at_of (j := 1) rfl rfl, _, rfl, p, _, _, _, rfl, rfl, SqL.of w1, at_of (j := 3) rfl rfl, _, rfl, p, _, _, _, rfl, rfl, SqL.of w1, at_of (j := 1) rfl rfl, s, _, rfl, .inl (SqL.of (w3 _)), _, _, rfl, rfl, (by rw [List.length_map]; omega),
          s, _, _, _, rfl, rfl, SqL.of (w3 _), at_of (by rw [List.length_map]; exact ej) gj, ?_⟩
        generalize ss[j] = y
        refine ⟨_, rfl, _, _, rfl, rfl, (by show (0 : Int) < _; decide), _, rfl, p, _, _, _, rfl, rfl, SqL.of w1, at_of (j := 3) rfl rfl, _, rfl, p, _, _, _, rfl, rfl, SqL.of w1, at_of (j := 3) rfl rfl, _, _, rfl, rfl, .inl ⟨by omega, by omega⟩, _, _, rfl, rfl, _, _, rfl, rfl, .inl ⟨by omega, by omega⟩, ?_⟩
        refine ⟨_, rfl, p, _, _, _, rfl, rfl, SqL.of w1, at_of (j := 2) rfl rfl, _, _, rfl, rfl, .inl ⟨by omega, by omega⟩, _, rfl, _, _, rfl, rfl, _, rfl, p, _, _, _, rfl, rfl, SqL.of w1, at_of (j := 3) rfl rfl, _, _, rfl, rfl, .inl ⟨by omega, by omega⟩, _, _, rfl, rfl, _, _, rfl, rfl, (by show (0 : Int) < _; decide), _, rfl, p, _, 2, 2, rfl, rfl, w1, rfl, ?_⟩
        dsimp only [List.set]
        generalize hz : ((st * 48271 + y % 2147483629 * ((ct + 1) * (ct + 1) + 1) + 97 * (ct + 1)) % 2147483647 : Int) = z
        have hz0 : 0 ≤ z := by omega
        have hz1 : z < 2147483647 := by omega
        have w5 : upd (upd H p (.lst [.ref g, .ref s, .int st, .int (ct + 1)])) p (.lst [.ref g, .ref s, .int z, .int (ct + 1)]) p = some (.lst [.ref g, .ref s, .int z, .int (ct + 1)]) := upd_same
        refine ⟨_, rfl, p, _, _, _, rfl, rfl, SqL.of w5, at_of (j := 2) rfl rfl, _, _, rfl, rfl, ⟨by decide, by decide, by omega⟩, _, _, rfl, rfl, (by show (0 : Int) < _; decide), _, _, rfl, rfl, ⟨by decide, by decide⟩, _, rfl, _, _, rfl, rfl, hm0, ?_⟩
        refine q _ _ (Int.emod_nonneg _ (by omega)) (Int.emod_lt_of_pos _ hm0) ⟨gs, ss, z, ct + 1, w5, ?_, ?_, a4, a5, hz0, hz1, by omega, by omega, a10⟩ (fun b o hb n => ?_)
        · rw [upd_upd]
          exact w2 _
        · rw [upd_upd]
          exact w3 _
        · rw [upd_upd, upd_ne n.1]
          exact hb
      · refine ⟨_, rfl, _, _, rfl, rfl, (by show (0 : Int) < _; decide), _, rfl, p, _, _, _, rfl, rfl, SqL.of w1, at_of (j := 3) rfl rfl, _, rfl, p, _, _, _, rfl, rfl, SqL.of w1, at_of (j := 3) rfl rfl, _, _, rfl, rfl, .inl ⟨by omega, by omega⟩, _, _, rfl, rfl, _, _, rfl, rfl, .inl ⟨by omega, by omega⟩, ?_⟩
        refine ⟨_, rfl, p, _, _, _, rfl, rfl, SqL.of w1, at_of (j := 2) rfl rfl, _, _, rfl, rfl, .inl ⟨by omega, by omega⟩, _, rfl, _, _, rfl, rfl, _, rfl, p, _, _, _, rfl, rfl, SqL.of w1, at_of (j := 3) rfl rfl, _, _, rfl, rfl, .inl ⟨by omega, by omega⟩, _, _, rfl, rfl, _, _, rfl, rfl, (by show (0 : Int) < _; decide), _, rfl, p, _, 2, 2, rfl, rfl, w1, rfl, ?_⟩
        dsimp only [List.set]
        generalize hz : ((st * 48271 + 0 % 2147483629 * ((ct + 1) * (ct + 1) + 1) + 97 * (ct + 1)) % 2147483647 : Int) = z
        have hz0 : 0 ≤ z := by omega
        have hz1 : z < 2147483647 := by omega
        have w5 : upd (upd H p (.lst [.ref g, .ref s, .int st, .int (ct + 1)])) p (.lst [.ref g, .ref s, .int z, .int (ct + 1)]) p = some (.lst [.ref g, .ref s, .int z, .int (ct + 1)]) := upd_same
        refine ⟨_, rfl, p, _, _, _, rfl, rfl, SqL.of w5, at_of (j := 2) rfl rfl, _, _, rfl, rfl, ⟨by decide, by decide, by omega⟩, _, _, rfl, rfl, (by show (0 : Int) < _; decide), _, _, rfl, rfl, ⟨by decide, by decide⟩, _, rfl, _, _, rfl, rfl, hm0, ?_⟩
        refine q _ _ (Int.emod_nonneg _ (by omega)) (Int.emod_lt_of_pos _ hm0) ⟨gs, ss, z, ct + 1, w5, ?_, ?_, a4, a5, hz0, hz1, by omega, by omega, a10⟩ (fun b o hb n => ?_)
        · rw [upd_upd]
          exact w2 _
        · rw [upd_upd]
          exact w3 _
        · rw [upd_upd, upd_ne n.1]
          exact hb
end

def wordsL : List Str := ["yes", "no", "not", "and", "or", "step", "some", "all", "next", "once", "ever", "until", "unless"]
def lettersS : Str := "abcdefghijklmnopqrstuvwxyz"
structure Wd (K : PySem.W.Frag) (mg : Str → Option Value) where
  aW : Addr
  uL : Value
  gWORDS : mg "WORDS" = some (.ref aW)
  rWORDS : RelV (.ref aW) (.ref aW)
  sW : ∀ H, SqT K H aW (wordsL.map V.str)
  gLETTERS : mg "LETTERS" = some uL
  rLETTERS : RelV (.str lettersS) uL
/-- a text that is_name takes -/
structure GoodName (z : Str) : Prop where
  lo : 1 ≤ z.length
  hi : z.length ≤ 8
  nw : z ∉ wordsL
  al : ∀ c ∈ z.cps.toList, c ∈ lettersS.cps.toList
theorem flat_str (xs : List Str) : (xs.map V.str).all flatV = true := by
  rw [List.all_map, List.all_eq_true]
  exact fun _ _ => rfl
theorem flat_int (xs : List Int) : (xs.map V.int).all flatV = true := by
  rw [List.all_map, List.all_eq_true]
  exact fun _ _ => rfl
theorem inV_str (z : Str) (xs : List Str) : inV (.str z) (xs.map V.str) = decide (z ∈ xs) := by
  unfold inV
  rw [List.any_map]
  by_cases h : z ∈ xs
  · rw [decide_eq_true h, List.any_eq_true]
    exact ⟨z, h, by simp [Function.comp, eqV]⟩
  · rw [decide_eq_false h, List.any_eq_false]
    intro y hy q
    exact h (by simp [Function.comp, eqV] at q; rw [← q]; exact hy)
theorem inV_int (z : Int) (xs : List Int) : inV (.int z) (xs.map V.int) = decide (z ∈ xs) := by
  unfold inV
  rw [List.any_map]
  by_cases h : z ∈ xs
  · rw [decide_eq_true h, List.any_eq_true]
    exact ⟨z, h, by simp [Function.comp, eqV]⟩
  · rw [decide_eq_false h, List.any_eq_false]
    intro y hy q
    exact h (by simp [Function.comp, eqV] at q; rw [← q]; exact hy)

/-! ### rising rows -/
/-- a rising row of numbers below many -/
def RiseI (many : Int) (ns : List Int) : Prop := ns.Pairwise (· < ·) ∧ ∀ n ∈ ns, 0 ≤ n ∧ n < many
theorem rise_len {many : Int} {ns : List Int} (h : RiseI many ns) (hm : 0 ≤ many) : (ns.length : Int) ≤ many := by
  have key : ∀ (ns : List Int) (lo : Int), ns.Pairwise (· < ·) → (∀ n ∈ ns, lo ≤ n ∧ n < many) → lo ≤ many → (ns.length : Int) ≤ many - lo := by
    intro ns
    induction ns with
    | nil =>
      intro lo _ _ h
      show (0 : Int) ≤ _
      omega
    | cons x r ih =>
      intro lo hp hb hl
      obtain ⟨p1, p2⟩ := List.pairwise_cons.mp hp
      have b1 := hb x List.mem_cons_self
      have := ih (x + 1) p2 (fun n hn => ⟨by have := p1 n hn; omega, (hb n (List.mem_cons_of_mem _ hn)).2⟩) (by omega)
      rw [List.length_cons]
      omega
  have := key ns 0 h.1 h.2 hm
  omega
/-- a rising row of names -/
def RiseS (zs : List Str) : Prop := zs.Pairwise (fun x y => x.cps.toList < y.cps.toList) ∧ ∀ z ∈ zs, GoodName z

/-! ### fairtrees.signs, on what it takes -/
abbrev sis_whole : Stmt := topS 6
theorem scis_whole : FnScope ["thing"] ["thing"] (defScope sis_whole) := ⟨rfl, rfl, rfl, by decide +kernel, rfl, by decide +kernel, by decide +kernel⟩
abbrev sis_number : Stmt := topS 7
theorem scis_number : FnScope ["thing", "low", "high"] ["thing", "low", "high"] (defScope sis_number) := ⟨rfl, rfl, rfl, by decide +kernel, rfl, by decide +kernel, by decide +kernel⟩
abbrev sis_row : Stmt := topS 8
theorem scis_row : FnScope ["thing", "least", "most"] ["thing", "least", "most"] (defScope sis_row) := ⟨rfl, rfl, rfl, by decide +kernel, rfl, by decide +kernel, by decide +kernel⟩
abbrev sis_name : Stmt := topS 9
theorem scis_name : FnScope ["thing", "sign"] ["thing"] (defScope sis_name) := ⟨rfl, rfl, rfl, by decide +kernel, rfl, by decide +kernel, by decide +kernel⟩
abbrev sis_set : Stmt := topS 10
theorem scis_set : FnScope ["thing", "many", "last", "one"] ["thing", "many"] (defScope sis_set) := ⟨rfl, rfl, rfl, by decide +kernel, rfl, by decide +kernel, by decide +kernel⟩
abbrev sare_names : Stmt := topS 11
theorem scare_names : FnScope ["thing", "most", "last", "name"] ["thing", "most"] (defScope sare_names) := ⟨rfl, rfl, rfl, by decide +kernel, rfl, by decide +kernel, by decide +kernel⟩
section
variable {P : Program} {w : World} {K : PySem.W.Frag} {mg : Str → Option Value} {base : Heap}
def spWhole : Sp := fun vs H Q _ => ∃ i : Int, vs = [.int i] ∧ Q (.bl true) H
theorem ok_whole {f : Addr} {fd : FuncData} (F : Fun K "is_whole" "is_whole" sis_whole f fd) (T : Bi mg) : FnOk P w K mg base CX0 1 f fd ["thing"] spWhole := by
  refine F.ok scis_whole (fun vs H Q E h => ?_) (fun cdv A outer s H vs Q E hr h => ?_)
  · obtain ⟨i, rfl, _⟩ := h
    rfl
  · obtain ⟨i, rfl, q⟩ := h
    refine ⟨_, (pss_one (ps_ret (pe_and (pe_callB call_isi (by rfl) T.isinstance (by decide +kernel) (pa_cons (pv 0) (pa_cons (pe_bltn (v := .ty "int") (u := .type "int") (by rfl) T.int (by decide +kernel) rfl) pa_nil))) (pe_one (pe_not (pe_callB call_isi (by rfl) T.isinstance (by decide +kernel) (pa_cons (pv 0) (pa_cons (pe_bltn (v := .ty "bool") (u := .type "bool") (by rfl) T.bool (by decide +kernel) rfl) pa_nil)))))))), ?_⟩
    exact ⟨_, rfl, _, _, _, _, true, rfl, .ty "int", .base (.int _), kit_ty (by decide +kernel), true, rfl, iteT ⟨_, rfl, _, _, _, _, false, rfl, .ty "bool", .base (.int _), kit_ty (by decide +kernel), _, rfl, q⟩⟩
def spNumber : Sp := fun vs H Q _ => ∃ i lo hi : Int, vs = [.int i, .int lo, .int hi] ∧ Q (.bl (decide (lo ≤ i) && decide (i < hi))) H
theorem ok_number {f : Addr} {fd : FuncData} (F : Fun K "is_number" "is_number" sis_number f fd) (T : Bi mg) (cis_whole : Cal P w K mg base 1 "is_whole" ["thing"] spWhole) : FnOk P w K mg base CX0 2 f fd ["thing", "low", "high"] spNumber := by
  refine F.ok scis_number (fun vs H Q E h => ?_) (fun cdv A outer s H vs Q E hr h => ?_)
  · obtain ⟨i, lo, hi, rfl, _⟩ := h
    rfl
  · obtain ⟨i, lo, hi, rfl, q⟩ := h
    refine ⟨_, (pss_one (ps_ret (pe_and (pe_call cis_whole.G hr (by rfl) cis_whole.g cis_whole.kp cis_whole.b .nil pass0 (pa_cons (pv 0) pa_nil)) (pe_one (pe_chain op_le op_lt (pv 1) (pv 0) (pv 2)))))), ?_⟩
    refine ⟨_, rfl, i, rfl, true, rfl, iteT ⟨_, rfl, _, rfl, lo, i, rfl, rfl, _, rfl, ite2 (fun e => ?_) (fun e => ?_)⟩⟩
    · refine ⟨_, rfl, i, hi, rfl, rfl, ?_⟩
      rw [e, Bool.true_and] at q
      exact q
    · have e' : decide (lo ≤ i) = false := by simpa using e
      rw [e', Bool.false_and] at q
      exact q
def spRow (K : PySem.W.Frag) : Sp := fun vs H Q _ => ∃ (a : Addr) (xs : List V) (lo hi : Int), vs = [.ref a, .int lo, .int hi] ∧ SqT K H a xs ∧ Q (.bl (decide (lo ≤ xs.length) && decide ((xs.length : Int) ≤ hi))) H
theorem ok_row {f : Addr} {fd : FuncData} (F : Fun K "is_row" "is_row" sis_row f fd) (T : Bi mg) : FnOk P w K mg base CX0 1 f fd ["thing", "least", "most"] (spRow K) := by
  refine F.ok scis_row (fun vs H Q E h => ?_) (fun cdv A outer s H vs Q E hr h => ?_)
  · obtain ⟨a, xs, lo, hi, rfl, _⟩ := h
    rfl
  · obtain ⟨a, xs, lo, hi, rfl, hx, q⟩ := h
    refine ⟨_, (pss_one (ps_ret (pe_and (pe_callB call_isi (by rfl) T.isinstance (by decide +kernel) (pa_cons (pv 0) (pa_cons (pe_bltn (v := .ty "tuple") (u := .type "tuple") (by rfl) T.tuple (by decide +kernel) rfl) pa_nil))) (pe_one (pe_chain op_le op_le (pv 1) (pe_callB call_len_seq (by rfl) T.len PySem.boot_len (pa_cons (pv 0) pa_nil)) (pv 2)))))), ?_⟩
    refine ⟨_, rfl, _, _, _, _, true, rfl, .ty "tuple", ty_sqt hx, kit_ty (by decide +kernel), true, rfl, iteT ⟨_, rfl, _, rfl, a, xs, rfl, .inr hx, lo, _, rfl, rfl, _, rfl, ite2 (fun e => ?_) (fun e => ?_)⟩⟩
    · refine ⟨_, rfl, _, hi, rfl, rfl, ?_⟩
      rw [e, Bool.true_and] at q
      exact q
    · have e' : decide (lo ≤ (xs.length : Int)) = false := by simpa using e
      rw [e', Bool.false_and] at q
      exact q
def spName : Sp := fun vs H Q _ => ∃ z : Str, vs = [.str z] ∧ GoodName z ∧ Q (.bl true) H
theorem ok_name {f : Addr} {fd : FuncData} (F : Fun K "is_name" "is_name" sis_name f fd) (T : Bi mg) (W : Wd K mg) : FnOk P w K mg base CX0 1 f fd ["thing"] spName := by
  refine F.ok scis_name (fun vs H Q E h => ?_) (fun cdv A outer s H vs Q E hr h => ?_)
  · obtain ⟨z, rfl, _⟩ := h
    rfl
  · obtain ⟨z, rfl, g, q⟩ := h
    have l1 := g.lo
    have l2 := g.hi
    refine ⟨_, (pss_cons (ps_if (PW.pt (pw_or (pt_not (pt_val (pe_callB call_isi (by rfl) T.isinstance (by decide +kernel) (pa_cons (pv 0) (pa_cons (pe_bltn (v := .ty "str") (u := .type "str") (by rfl) T.str (by decide +kernel) rfl) pa_nil))))) (pw_or (pt_not (pt_chain op_le op_le pe_int (pe_callB call_len_str (by rfl) T.len PySem.boot_len (pa_cons (pv 0) pa_nil)) pe_int)) (pw_or1 (pt_cmpR op_in_seq (pv 0) (pe_glob rfl W.gWORDS W.rWORDS) (by rfl))))))
        (pss_one (ps_ret pe_bl))
        pss_nil)
      (pss_cons (ps_for PassesOwn.never rfl (pi_str (pv 0)) (pg_name (i := 1) scis_name.nd rfl (.inl rfl))
        (pss_one (ps_if (pt_cmpR op_notIn_sign (pv 1) (pe_glob rfl W.gLETTERS W.rLETTERS) (by rfl))
          (pss_one (ps_ret pe_bl))
          pss_nil)))
      (pss_one (ps_ret pe_bl)))), ?_⟩
    refine ⟨_, rfl, _, _, _, _, true, rfl, .ty "str", .base (.str _), kit_ty (by decide +kernel), _, rfl, iteF ?_⟩
    refine ⟨_, rfl, z, rfl, szOk (by omega), 1, _, rfl, rfl, _, rfl, ite2 (fun e => ?_) (fun e => ?_)⟩
    · refine ⟨_, _, rfl, rfl, _, rfl, ?_⟩
      rw [show decide ((z.length : Int) ≤ 8) = true from decide_eq_true (by omega)]
      refine iteF ⟨_, rfl, _, _, rfl, .inr (W.sW _), rfl, flat_str _, _, rfl, ?_⟩
      rw [inV_str, decide_eq_false g.nw]
      refine iteF ⟨_, rfl, z, rfl, for_it walk_str (fun i σ H' => ∃ y, σ = [some (.str z), y] ∧ H' = H) ⟨_, rfl, rfl⟩ (fun _ _ _ _ _ => trivial) ?_ ?_⟩
      · rintro i x σ H1 H2 hi ⟨y, rfl, rfl⟩ ⟨rfl, c, hc, rfl⟩
        refine ⟨_, rfl, c, lettersS, rfl, rfl, _, rfl, ?_⟩
        rw [decide_eq_true (g.al c (by rw [← Array.getElem?_toList] at hc; exact List.mem_of_getElem? hc))]
        exact iteF ⟨_, rfl, rfl⟩
      · rintro σ H1 ⟨y, rfl, rfl⟩
        exact q
    · exact absurd (decide_eq_true (by omega)) e
def spSet (K : PySem.W.Frag) : Sp := fun vs H Q _ => ∃ (a : Addr) (ns : List Int) (many : Int), vs = [.ref a, .int many] ∧ SqT K H a (ns.map V.int) ∧ RiseI many ns ∧ 0 ≤ many ∧ Q (.bl true) H
theorem ok_set {f : Addr} {fd : FuncData} (F : Fun K "is_set" "is_set" sis_set f fd) (cis_row : Cal P w K mg base 1 "is_row" ["thing", "least", "most"] (spRow K)) (cis_number : Cal P w K mg base 2 "is_number" ["thing", "low", "high"] spNumber) :
    FnOk P w K mg base CX0 3 f fd ["thing", "many"] (spSet K) := by
  refine F.ok scis_set (fun vs H Q E h => ?_) (fun cdv A outer s H vs Q E hr h => ?_)
  · obtain ⟨a, ns, many, rfl, _⟩ := h
    rfl
  · obtain ⟨a, ns, many, rfl, hx, hr1, hm, q⟩ := h
    have hl := rise_len hr1 hm
    refine ⟨_, (pss_cons (ps_if (pt_not (pt_val (pe_call cis_row.G (hr.mono (by decide)) (by rfl) cis_row.g cis_row.kp cis_row.b .nil pass0 (pa_cons (pv 0) (pa_cons pe_int (pa_cons (pv 1) pa_nil))))))
        (pss_one (ps_ret pe_bl))
        pss_nil)
      (pss_cons (ps_set (i := 2) scis_set.nd rfl (.inl rfl) (pe_un un_neg pe_int))
      (pss_cons (ps_for PassesOwn.never rfl (pi_tup (pv 0)) (pg_name (i := 3) scis_set.nd rfl (.inl rfl))
        (pss_cons (ps_if (pt_not (pt_val (pe_call cis_number.G hr (by rfl) cis_number.g cis_number.kp cis_number.b .nil pass0 (pa_cons (pv 3) (pa_cons (pe_op op_add (pv 2) pe_int) (pa_cons (pv 1) pa_nil))))))
          (pss_one (ps_ret pe_bl))
          pss_nil)
        (pss_one (ps_set (i := 2) scis_set.nd rfl (.inl rfl) (pv 3)))))
      (pss_one (ps_ret pe_bl))))), ?_⟩
    refine ⟨_, rfl, _, rfl, a, _, 0, many, rfl, hx, _, rfl, ?_⟩
    rw [List.length_map, show (decide ((0 : Int) ≤ ns.length) && decide ((ns.length : Int) ≤ many)) = true by rw [decide_eq_true (by omega), decide_eq_true hl] <;> rfl]
    refine iteF ⟨_, rfl, _, rfl, a, rfl, ⟨_, hx⟩, for_tup (K := K) (a := a) (xs := ns.map V.int) (fun i σ H' => ∃ y, σ = [some (.ref a), some (.int many), some (.int (if i = 0 then -1 else ns.getD (i - 1) 0)), y] ∧ H' = H) ⟨_, rfl, rfl⟩ (fun i σ H' _ ⟨_, _, e⟩ => by rw [e]; exact hx) ?_ ?_⟩
    · rintro i x σ H1 hi ⟨y, rfl, rfl⟩
      obtain ⟨n, hn, rfl⟩ := map_get hi
      have hil : i < ns.length := (List.getElem?_eq_some_iff.mp hn).1
      have hb := hr1.2 n (List.mem_of_getElem? hn)
      have hlast : (if i = 0 then -1 else ns.getD (i - 1) 0) + 1 ≤ n := by
        by_cases h0 : i = 0
        · rw [if_pos h0]
          omega
        · rw [if_neg h0]
          have h1 : i - 1 < ns.length := by omega
          have e2 : ns[i] = n := Option.some.inj ((List.getElem?_eq_getElem hil).symm.trans hn)
          have := (List.pairwise_iff_getElem.mp hr1.1) (i - 1) i h1 hil (by omega)
          rw [List.getD_eq_getElem?_getD, List.getElem?_eq_getElem h1]
          show ns[i - 1] + 1 ≤ n
          omega
      refine ⟨_, rfl, _, rfl, _, _, rfl, rfl, _, rfl, n, _, many, rfl, _, rfl, ?_⟩
      rw [decide_eq_true hlast, decide_eq_true hb.2]
      refine iteF ⟨_, rfl, some (V.int n), ?_, rfl⟩
      rw [if_neg (Nat.succ_ne_zero i), Nat.add_sub_cancel, show ns.getD i 0 = n by rw [List.getD_eq_getElem?_getD, hn] <;> rfl]
      rfl
    · rintro σ H1 ⟨y, rfl, rfl⟩
      exact q
def spNames (K : PySem.W.Frag) : Sp := fun vs H Q _ => ∃ (a : Addr) (zs : List Str) (most : Int), vs = [.ref a, .int most] ∧ SqT K H a (zs.map V.str) ∧ RiseS zs ∧ (zs.length : Int) ≤ most ∧ Q (.bl true) H
theorem ok_names {f : Addr} {fd : FuncData} (F : Fun K "are_names" "are_names" sare_names f fd) (cis_row : Cal P w K mg base 1 "is_row" ["thing", "least", "most"] (spRow K)) (cis_name : Cal P w K mg base 1 "is_name" ["thing"] spName) :
    FnOk P w K mg base CX0 2 f fd ["thing", "most"] (spNames K) := by
  refine F.ok scare_names (fun vs H Q E h => ?_) (fun cdv A outer s H vs Q E hr h => ?_)
  · obtain ⟨a, zs, most, rfl, _⟩ := h
    rfl
  · obtain ⟨a, zs, most, rfl, hx, hr1, hm, q⟩ := h
    refine ⟨_, (pss_cons (ps_if (pt_not (pt_val (pe_call cis_row.G hr (by rfl) cis_row.g cis_row.kp cis_row.b .nil pass0 (pa_cons (pv 0) (pa_cons pe_int (pa_cons (pv 1) pa_nil))))))
        (pss_one (ps_ret pe_bl))
        pss_nil)
      (pss_cons (ps_set (i := 2) scare_names.nd rfl (.inl rfl) pe_str)
      (pss_cons (ps_for PassesOwn.never rfl (pi_tup (pv 0)) (pg_name (i := 3) scare_names.nd rfl (.inl rfl))
        (pss_cons (ps_if (PW.pt (pw_or (pt_not (pt_val (pe_call cis_name.G hr (by rfl) cis_name.g cis_name.kp cis_name.b .nil pass0 (pa_cons (pv 3) pa_nil)))) (pw_or1 (pt_cmpR op_le_str (pv 3) (pv 2) (nomark _)))))
          (pss_one (ps_ret pe_bl))
          pss_nil)
        (pss_one (ps_set (i := 2) scare_names.nd rfl (.inl rfl) (pv 3)))))
      (pss_one (ps_ret pe_bl))))), ?_⟩
    refine ⟨_, rfl, _, rfl, a, _, 0, most, rfl, hx, _, rfl, ?_⟩
    rw [List.length_map, show (decide ((0 : Int) ≤ zs.length) && decide ((zs.length : Int) ≤ most)) = true by rw [decide_eq_true (by omega), decide_eq_true hm] <;> rfl]
    refine iteF ⟨_, rfl, a, rfl, ⟨_, hx⟩, for_tup (K := K) (a := a) (xs := zs.map V.str) (fun i σ H' => ∃ y, σ = [some (.ref a), some (.int most), some (.str (if i = 0 then Str.ofString "" else zs.getD (i - 1) Str.empty)), y] ∧ H' = H) ⟨_, rfl, rfl⟩ (fun i σ H' _ ⟨_, _, e⟩ => by rw [e]; exact hx) ?_ ?_⟩
    · rintro i x σ H1 hi ⟨y, rfl, rfl⟩
      obtain ⟨n, hn, rfl⟩ := map_get hi
      have hil : i < zs.length := (List.getElem?_eq_some_iff.mp hn).1
      have hb := hr1.2 n (List.mem_of_getElem? hn)
      have hlast : (if i = 0 then Str.ofString "" else zs.getD (i - 1) Str.empty).cps.toList < n.cps.toList := by
        by_cases h0 : i = 0
        · rw [if_pos h0]
          have e0 : (Str.ofString "").cps.toList = [] := by decide +kernel
          rw [e0]
          have l1 := hb.lo
          have l2 : n.cps.toList.length = n.length := by simp [Str.length]
          cases e : n.cps.toList with
          | nil =>
            rw [e] at l2
            simp at l2
            omega
          | cons c r => exact List.Lex.nil
        · rw [if_neg h0]
          have h1 : i - 1 < zs.length := by omega
          have e2 : zs[i] = n := Option.some.inj ((List.getElem?_eq_getElem hil).symm.trans hn)
          have := (List.pairwise_iff_getElem.mp hr1.1) (i - 1) i h1 hil (by omega)
          rw [List.getD_eq_getElem?_getD, List.getElem?_eq_getElem h1]
          show zs[i - 1].cps.toList < n.cps.toList
          rw [← e2]
          exact this
      refine ⟨_, rfl, n, rfl, hb, _, rfl, iteF ⟨_, rfl, _, rfl, n, _, rfl, rfl, _, rfl, ?_⟩⟩
      rw [decide_eq_true hlast]
      refine iteF ⟨_, rfl, some (V.str n), ?_, rfl⟩
      rw [if_neg (Nat.succ_ne_zero i), Nat.add_sub_cancel, show zs.getD i Str.empty = n by rw [List.getD_eq_getElem?_getD, hn] <;> rfl]
      rfl
    · rintro σ H1 ⟨y, rfl, rfl⟩
      exact q
end

/-! ### fairtrees.machines, on what it takes -/
structure MachAt (K : PySem.W.Frag) (H : Hp) (m : Addr) (steps : List (List Int)) (marks : List (List Str)) : Prop where
  ex : ∃ (s k : Addr) (sa ka : List Addr), SqT K H m [.ref s, .ref k] ∧ SqT K H s (sa.map V.ref) ∧ SqT K H k (ka.map V.ref) ∧
    Each (fun a ns => SqT K H a (ns.map V.int)) sa steps ∧ Each (fun a zs => SqT K H a (zs.map V.str)) ka marks
structure GoodMach (steps : List (List Int)) (marks : List (List Str)) : Prop where
  len : steps.length = marks.length
  lo : 1 ≤ steps.length
  hi : steps.length ≤ 40
  st : ∀ r ∈ steps, RiseI steps.length r
  mr : ∀ r ∈ marks, RiseS r ∧ r.length ≤ 8
theorem MachAt.imm {K : PySem.W.Frag} {H H' : Hp} {m : Addr} {steps : List (List Int)} {marks : List (List Str)} (M : MachAt K H m steps marks) (e : Imm H H') : MachAt K H' m steps marks := by
  obtain ⟨s, k, sa, ka, h1, h2, h3, h4, h5⟩ := M.ex
  exact ⟨s, k, sa, ka, e.sq h1, e.sq h2, e.sq h3, h4.imp fun _ _ h => e.sq h, h5.imp fun _ _ h => e.sq h⟩
structure WishAt (K : PySem.W.Frag) (H : Hp) (t : Addr) (ws : List (Str × Str)) : Prop where
  ex : ∃ wa : List Addr, SqT K H t (wa.map V.ref) ∧ Each (fun a (x : Str × Str) => SqT K H a [.str x.1, .str x.2]) wa ws
theorem WishAt.imm {K : PySem.W.Frag} {H H' : Hp} {t : Addr} {ws : List (Str × Str)} (M : WishAt K H t ws) (e : Imm H H') : WishAt K H' t ws := by
  obtain ⟨wa, h1, h2⟩ := M.ex
  exact ⟨wa, e.sq h1, h2.imp fun _ _ h => e.sq h⟩
theorem ref_get {as : List Addr} {i : Nat} {v : V} (h : (as.map V.ref)[i]? = some v) : ∃ a, as[i]? = some a ∧ v = .ref a := map_get h
theorem dec_str (x y : Str) : decide (V.str x = V.str y) = decide (x = y) := by
  by_cases h : x = y
  · rw [decide_eq_true h, decide_eq_true (by rw [h])]
  · rw [decide_eq_false h, decide_eq_false fun q => h (V.str.inj q)]
theorem dec_int (x y : Int) : decide (V.int x = V.int y) = decide (x = y) := by
  by_cases h : x = y
  · rw [decide_eq_true h, decide_eq_true (by rw [h])]
  · rw [decide_eq_false h, decide_eq_false fun q => h (V.int.inj q)]
/-- the standings that bear a name -/
def bearersOf (marks : List (List Str)) (z : Str) (n : Nat) : List Int := ((List.range n).filter fun j => decide (z = Str.ofString "") || decide (z ∈ marks.getD j [])).map Int.ofNat
theorem bearersOf_yes {marks : List (List Str)} {z : Str} {n : Nat} (h : (decide (z = Str.ofString "") || decide (z ∈ marks.getD n [])) = true) : bearersOf marks z (n + 1) = bearersOf marks z n ++ [(n : Int)] := by
  unfold bearersOf
  rw [List.range_succ, List.filter_append, List.map_append, List.filter_cons, if_pos h] <;> rfl
theorem bearersOf_no {marks : List (List Str)} {z : Str} {n : Nat} (h : (decide (z = Str.ofString "") || decide (z ∈ marks.getD n [])) = false) : bearersOf marks z (n + 1) = bearersOf marks z n := by
  unfold bearersOf
  rw [List.range_succ, List.filter_append, List.map_append, List.filter_cons, if_neg (by rw [h]; decide)]
  show _ ++ [] = _
  rw [List.append_nil]

/-! ### fairtrees.machines, on what it takes: the walks -/
abbrev sis_machine : Stmt := topS 13
theorem scis_machine : FnScope ["thing", "steps", "marks", "many", "ahead", "names"] ["thing"] (defScope sis_machine) := ⟨rfl, rfl, rfl, by decide +kernel, rfl, by decide +kernel, by decide +kernel⟩
section
variable {P : Program} {w : World} {K : PySem.W.Frag} {mg : Str → Option Value} {base : Heap}
def spMachine (K : PySem.W.Frag) : Sp := fun vs H Q _ => ∃ (m : Addr) (steps : List (List Int)) (marks : List (List Str)), vs = [.ref m] ∧ MachAt K H m steps marks ∧ GoodMach steps marks ∧ Q (.bl true) H
theorem ok_machine {f : Addr} {fd : FuncData} (F : Fun K "is_machine" "is_machine" sis_machine f fd) (T : Bi mg) (cis_row : Cal P w K mg base 1 "is_row" ["thing", "least", "most"] (spRow K)) (cis_set : Cal P w K mg base 3 "is_set" ["thing", "many"] (spSet K))
    (care_names : Cal P w K mg base 2 "are_names" ["thing", "most"] (spNames K)) : FnOk P w K mg base CX0 4 f fd ["thing"] (spMachine K) := by
  refine F.ok scis_machine (fun vs H Q E h => ?_) (fun cdv A outer s H vs Q E hr h => ?_)
  · obtain ⟨m, steps, marks, rfl, _⟩ := h
    rfl
  · obtain ⟨m, steps, marks, rfl, M, G, q⟩ := h
    obtain ⟨s, k, sa, ka, h1, h2, h3, h4, h5⟩ := M.ex
    have l1 := h4.len
    have l2 := h5.len
    have g1 := G.len
    have g2 := G.lo
    have g3 := G.hi
    refine ⟨_, (pss_cons (ps_if (PW.pt (pw_or (pt_not (pt_val (pe_call cis_row.G (hr.mono (by decide)) (by rfl) cis_row.g cis_row.kp cis_row.b .nil pass0 (pa_cons (pv 0) (pa_cons pe_int (pa_cons pe_int pa_nil)))))) (pw_or1 (pt_not (pt_val (pe_call cis_row.G (hr.mono (by decide)) (by rfl) cis_row.g cis_row.kp cis_row.b .nil pass0 (pa_cons (pe_ix ix_tup (pv 0) pe_int (fun _ _ => rfl)) (pa_cons pe_int (pa_cons pe_int pa_nil)))))))))
        (pss_one (ps_ret pe_bl))
        pss_nil)
      (pss_cons (ps_asg (pv 0) (pg_tup rfl (pgs_cons (pg_name (i := 1) scis_machine.nd rfl (.inl rfl)) (pgs_cons (pg_name (i := 2) scis_machine.nd rfl (.inl rfl)) pgs_nil))))
      (pss_cons (ps_set (i := 3) scis_machine.nd rfl (.inl rfl) (pe_callB call_len_seq (by rfl) T.len PySem.boot_len (pa_cons (pv 1) pa_nil)))
      (pss_cons (ps_if (pt_not (pt_val (pe_call cis_row.G (hr.mono (by decide)) (by rfl) cis_row.g cis_row.kp cis_row.b .nil pass0 (pa_cons (pv 2) (pa_cons (pv 3) (pa_cons (pv 3) pa_nil))))))
        (pss_one (ps_ret pe_bl))
        pss_nil)
      (pss_cons (ps_for PassesOwn.never rfl (pi_tup (pv 1)) (pg_name (i := 4) scis_machine.nd rfl (.inl rfl))
        (pss_one (ps_if (pt_not (pt_val (pe_call cis_set.G hr (by rfl) cis_set.g cis_set.kp cis_set.b .nil pass0 (pa_cons (pv 4) (pa_cons (pv 3) pa_nil)))))
          (pss_one (ps_ret pe_bl))
          pss_nil)))
      (pss_cons (ps_for PassesOwn.never rfl (pi_tup (pv 2)) (pg_name (i := 5) scis_machine.nd rfl (.inl rfl))
        (pss_one (ps_if (pt_not (pt_val (pe_call care_names.G (hr.mono (by decide)) (by rfl) care_names.g care_names.kp care_names.b .nil pass0 (pa_cons (pv 5) (pa_cons pe_int pa_nil)))))
          (pss_one (ps_ret pe_bl))
          pss_nil)))
      (pss_one (ps_ret pe_bl)))))))), ?_⟩
    refine ⟨_, rfl, m, _, 2, 2, rfl, h1, true, rfl, iteF ⟨_, rfl, m, _, 0, .ref s, rfl, rfl, h1, at_of (j := 0) rfl rfl, s, _, 1, 40, rfl, h2, _, rfl, ?_⟩⟩
    rw [List.length_map, show (decide ((1 : Int) ≤ sa.length) && decide ((sa.length : Int) ≤ 40)) = true by rw [decide_eq_true (by omega), decide_eq_true (by omega)] <;> rfl]
    refine iteF ⟨_, rfl, m, _, rfl, h1, rfl, _, _, rfl, _, _, rfl, rfl, ?_⟩
    refine ⟨_, rfl, s, _, rfl, .inr h2, ?_⟩
    refine ⟨_, rfl, _, rfl, _, rfl, k, _, _, _, rfl, h3, _, rfl, ?_⟩
    rw [List.length_map, List.length_map, show (decide ((sa.length : Int) ≤ ka.length) && decide ((ka.length : Int) ≤ sa.length)) = true by rw [decide_eq_true (by omega), decide_eq_true (by omega)] <;> rfl]
    refine iteF ⟨_, rfl, s, rfl, ⟨_, h2⟩, for_tup (K := K) (a := s) (xs := sa.map V.ref) (fun i σ H' => ∃ y z, σ = [some (.ref m), some (.ref s), some (.ref k), some (.int sa.length), y, z] ∧ H' = H) ⟨none, none, rfl, rfl⟩ (fun i σ H' _ ⟨_, _, _, e⟩ => by rw [e]; exact h2) ?_ ?_⟩
    · rintro i x σ H1 hi ⟨y, z, rfl, rfl⟩
      obtain ⟨a, ha, rfl⟩ := ref_get hi
      obtain ⟨r, hr1, hr2⟩ := h4.get ha
      have hg := G.st r (List.mem_of_getElem? hr1)
      rw [← l1] at hg
      refine ⟨_, rfl, _, rfl, a, r, _, rfl, hr2, hg, by omega, _, rfl, iteF ⟨_, _, rfl, rfl⟩⟩
    · rintro σ H1 ⟨y, z, rfl, rfl⟩
      refine ⟨_, rfl, k, rfl, ⟨_, h3⟩, for_tup (K := K) (a := k) (xs := ka.map V.ref) (fun i σ H' => ∃ z, σ = [some (.ref m), some (.ref s), some (.ref k), some (.int sa.length), y, z] ∧ H' = H1) ⟨_, rfl, rfl⟩ (fun i σ H' _ ⟨_, _, e⟩ => by rw [e]; exact h3) ?_ ?_⟩
      · rintro i x σ H2 hi ⟨z, rfl, rfl⟩
        obtain ⟨a, ha, rfl⟩ := ref_get hi
        obtain ⟨r, hr1, hr2⟩ := h5.get ha
        have hg := G.mr r (List.mem_of_getElem? hr1)
        refine ⟨_, rfl, a, r, 8, rfl, hr2, hg.1, (by have := hg.2; omega), _, rfl, iteF ⟨_, rfl, rfl⟩⟩
      · rintro σ H2 ⟨z, rfl, rfl⟩
        exact q
end

/-! ### _law_name, _law_names -/
theorem letters_eq : lettersS.cps.toList = List.range' 97 26 := by decide +kernel
theorem letters_at {j : Nat} (hj : j < 26) : lettersS.cps.toList[j]? = some (97 + j) := by
  rw [letters_eq, List.getElem?_range' hj]
  simp
theorem letters_len : lettersS.length ≤ 100000 := by
  show lettersS.cps.size ≤ 100000
  rw [← Array.length_toList, letters_eq]
  simp
theorem letters_mem {j : Nat} (hj : j < 26) : 97 + j ∈ lettersS.cps.toList := List.mem_of_getElem? (letters_at hj)
def Alpha (z : Str) : Prop := ∀ c ∈ z.cps.toList, c ∈ lettersS.cps.toList
theorem app_list (x y : Str) : (x ++ y).cps.toList = x.cps.toList ++ y.cps.toList := by
  show (x.cps ++ y.cps).toList = _
  rw [Array.toList_append]
theorem app_len (x y : Str) : (x ++ y).length = x.length + y.length := by
  show (x ++ y).cps.size = x.cps.size + y.cps.size
  rw [← Array.length_toList, ← Array.length_toList, ← Array.length_toList, app_list, List.length_append]
theorem alpha_app {x : Str} {j : Nat} (h : Alpha x) (hj : j < 26) : Alpha (x ++ ⟨#[97 + j]⟩) := fun c hc => by
  rw [app_list] at hc
  rcases List.mem_append.mp hc with hc | hc
  · exact h c hc
  · have e : c = 97 + j := by simpa using hc
    rw [e]
    exact letters_mem hj
theorem pigeon {α : Type} [BEq α] [LawfulBEq α] : ∀ (l m : List α), l.Nodup → (∀ x ∈ l, x ∈ m) → l.length ≤ m.length
  | [], _, _, _ => Nat.zero_le _
  | x :: r, m, nd, h => by
    obtain ⟨n1, n2⟩ := List.nodup_cons.mp nd
    have hx := h x List.mem_cons_self
    have := pigeon r (m.erase x) n2 fun y hy => (List.mem_erase_of_ne (fun q => n1 (by rw [← q]; exact hy))).mpr (h y (List.mem_cons_of_mem _ hy))
    rw [List.length_erase_of_mem hx] at this
    have : 0 < m.length := List.length_pos_of_mem hx
    rw [List.length_cons]
    omega
/-- what the loop tries at its k-th turn -/
def cand (nm : Str) (last k : Nat) : Str := nm ++ ⟨#[97 + (last + k) % 26]⟩
theorem cand_inj {nm : Str} {last j k : Nat} (hj : j < 26) (hk : k < 26) (h : cand nm last j = cand nm last k) : j = k := by
  have e : (cand nm last j).cps.toList = (cand nm last k).cps.toList := by rw [h]
  unfold cand at e
  rw [app_list, app_list] at e
  have e2 := List.append_cancel_left e
  simp at e2
  omega
theorem cand_some {nm : Str} {last : Nat} {words taken : List Str} (hw : words.length + taken.length < 26) (h : ∀ j, j < 26 → cand nm last j ∈ words ∨ cand nm last j ∈ taken) : False := by
  have nd : ((List.range 26).map (cand nm last)).Nodup := by
    refine List.pairwise_map.mpr ((List.pairwise_lt_range (n := 26)).imp_of_mem fun ha hb hab e => ?_)
    have := cand_inj (List.mem_range.mp ha) (List.mem_range.mp hb) e
    omega
  have := pigeon _ (words ++ taken) nd fun x hx => by
    obtain ⟨j, hj, rfl⟩ := List.mem_map.mp hx
    exact List.mem_append.mpr (h j (List.mem_range.mp hj))
  rw [List.length_map, List.length_range, List.length_append] at this
  omega
abbrev s_law_name : Stmt := topS 21
theorem sc_law_name : FnScope ["_law_pool_here", "_law_start", "_law_taken", "_law_letters", "_law_name_here", "_law_k", "_law_last", "_law_words", "_law_found"] ["_law_pool_here", "_law_start", "_law_taken"] (defScope s_law_name) := ⟨rfl, rfl, rfl, by decide +kernel, rfl, by decide +kernel, by decide +kernel⟩
abbrev s_law_names : Stmt := topS 22
theorem sc_law_names : FnScope ["_law_pool_here", "_law_many", "_law_letters", "_law_start", "_law_k", "_law_names_here"] ["_law_pool_here", "_law_many"] (defScope s_law_names) := ⟨rfl, rfl, rfl, by decide +kernel, rfl, by decide +kernel, by decide +kernel⟩
section
variable {P : Program} {w : World} {K : PySem.W.Frag} {mg : Str → Option Value} {base : Heap}
def spLName : Sp := fun vs H Q _ => ∃ (a : PA) (c : Nat) (start : Str) (t : Addr) (taken : List Str), vs = [.ref a.p, .str start, .ref t] ∧ Pool H a c ∧ c < 900000 ∧ H t = some (.lst (taken.map V.str)) ∧ Off a t ∧ Alpha start ∧ start.length ≤ 4 ∧ taken.length ≤ 12 ∧
  ∀ H' z, GoodName z → z ∉ taken → Pool H' a (c + 5) → Kp a H H' → Q (.str z) H'
theorem ok_lname {f : Addr} {fd : FuncData} (F : Fun K "_law_name" "_law_name" s_law_name f fd) (T : Bi mg) (c_law_draw : Cal P w K mg base 1 "_law_draw" ["_law_pool_here", "_law_many"] spDraw) : FnOk P w K mg base CX0 2 f fd ["_law_pool_here", "_law_start", "_law_taken"] spLName := by
  refine F.ok sc_law_name (fun vs H Q E h => ?_) (fun cdv A outer s H vs Q E hr h => ?_)
  · obtain ⟨a, c, start, t, taken, rfl, _⟩ := h
    rfl
  · obtain ⟨a, c, start, t, taken, rfl, PP, hc, ht, ot, al, sl, tl, q⟩ := h
    refine ⟨_, (pss_cons (ps_set (i := 3) sc_law_name.nd rfl (.inl rfl) pe_str)
      (pss_cons (ps_set (i := 4) sc_law_name.nd rfl (.inl rfl) (pv 1))
      (pss_cons (ps_for PassesOwn.never rfl (pi_range1 (by rfl) T.range (pa_cons (pe_call c_law_draw.G hr (by rfl) c_law_draw.g c_law_draw.kp c_law_draw.b .nil pass0 (pa_cons (pv 0) (pa_cons pe_int pa_nil))) pa_nil)) (pg_name (i := 5) sc_law_name.nd rfl (.inl rfl))
        (pss_one (ps_set (i := 4) sc_law_name.nd rfl (.inl rfl) (pe_op op_add_str (pv 4) (pe_ix ix_str (pv 3) (pe_call c_law_draw.G hr (by rfl) c_law_draw.g c_law_draw.kp c_law_draw.b .nil pass0 (pa_cons (pv 0) (pa_cons pe_int pa_nil))) (fun _ _ => rfl))))))
      (pss_cons (ps_set (i := 6) sc_law_name.nd rfl (.inl rfl) (pe_call c_law_draw.G hr (by rfl) c_law_draw.g c_law_draw.kp c_law_draw.b .nil pass0 (pa_cons (pv 0) (pa_cons pe_int pa_nil))))
      (pss_cons (ps_set (i := 7) sc_law_name.nd rfl (.inl rfl) (pe_lst (pa_cons pe_str (pa_cons pe_str (pa_cons pe_str (pa_cons pe_str (pa_cons pe_str (pa_cons pe_str (pa_cons pe_str (pa_cons pe_str (pa_cons pe_str (pa_cons pe_str (pa_cons pe_str (pa_cons pe_str (pa_cons pe_str pa_nil)))))))))))))))
      (pss_cons (ps_for PassesOwn.never rfl (pi_range1 (by rfl) T.range (pa_cons pe_int pa_nil)) (pg_name (i := 5) sc_law_name.nd rfl (.inl rfl))
        (pss_cons (ps_set (i := 8) sc_law_name.nd rfl (.inl rfl) (pe_op op_add_str (pv 4) (pe_ix ix_str (pv 3) (pe_op op_mod (pe_op op_add (pv 6) (pv 5)) pe_int) (fun _ _ => rfl))))
        (pss_one (ps_if (PW.pt (pw_and (pt_cmpR op_notIn_seq (pv 8) (pv 7) (by rfl)) (pw_and1 (pt_cmpR op_notIn_seq (pv 8) (pv 2) (by rfl)))))
          (pss_one (ps_ret (pv 8)))
          pss_nil))))
      (pss_one (ps_ret (pe_op op_add_str (pv 4) pe_str))))))))), ?_⟩
    -- for k in range(draw(pool, 4))
    refine ⟨_, rfl, _, rfl, a, c, 4, rfl, PP, by omega, by decide, by decide, fun H1 r r0 r1 P1 k1 => ⟨r, rfl, by omega, by omega, for_range (lo := 0) (n := r.toNat) (fun i σ H' => ∃ nm y,
      σ = [some (.ref a.p), some (.str start), some (.ref t), some (.str lettersS), some (.str nm), y, none, none, none] ∧ Alpha nm ∧ nm.length = start.length + i ∧ Pool H' a (c + 1 + i) ∧ Kp a H H')
      ⟨start, none, rfl, al, rfl, P1, k1⟩ ?_ ?_⟩⟩
    · rintro i σ H2 hi ⟨nm, y, rfl, an, ln, P2, k2⟩
      refine ⟨_, rfl, _, rfl, _, rfl, a, _, 26, rfl, P2, by omega, by decide, by decide, fun H3 r' r0' r1' P3 k3 => ?_⟩
      obtain ⟨j, rfl⟩ : ∃ j : Nat, r' = (j : Int) := ⟨r'.toNat, by omega⟩
      have hj : j < 26 := by omega
      refine ⟨lettersS, _, 97 + j, rfl, rfl, szOk letters_len, atI_nat (letters_at hj), nm, _, rfl, rfl, ?_, ?_⟩
      · show nm.length + 1 ≤ sizeLine
        exact szOk (by omega)
      · refine ⟨nm ++ ⟨#[97 + j]⟩, _, rfl, alpha_app an hj, ?_, ?_, k2.trans k3⟩
        · rw [app_len, ln]
          rfl
        · exact P3
    · rintro σ H2 ⟨nm, y, rfl, an, ln, P2, k2⟩
      -- last = draw(pool, 26); words
      refine ⟨_, rfl, a, _, 26, rfl, P2, by omega, by decide, by decide, fun H3 r' r0' r1' P3 k3 => ?_⟩
      obtain ⟨last, rfl⟩ : ∃ j : Nat, r' = (j : Int) := ⟨r'.toNat, by omega⟩
      refine ⟨by show 13 ≤ sizeLine; decide, fun l hl => ?_⟩
      have hl2 : upd H3 l (.lst (wordsL.map V.str)) l = some (.lst (wordsL.map V.str)) := upd_same
      have ht3 : H3 t = some (.lst (taken.map V.str)) := (k2.trans k3) _ _ ht ot
      have ht4 : ∀ o, upd H3 l o t = some (.lst (taken.map V.str)) := fun o => by
        rw [upd_ne (ne_of_none ht3 hl)]
        exact ht3
      refine ⟨26, rfl, by decide, by decide, for_range (lo := 0) (n := 26) (fun i σ H' => ∃ y z,
        σ = [some (.ref a.p), some (.str start), some (.ref t), some (.str lettersS), some (.str nm), y, some (.int last), some (.ref l), z] ∧ H' = upd H3 l (.lst (wordsL.map V.str)) ∧ ∀ j, j < i → cand nm last j ∈ wordsL ∨ cand nm last j ∈ taken)
        ⟨_, _, rfl, rfl, fun j hj => absurd hj (Nat.not_lt_zero _)⟩ ?_ ?_⟩
      · rintro i σ H' hi ⟨y', z, rfl, rfl, all⟩
        have hm : (last + i) % 26 < 26 := Nat.mod_lt _ (by decide)
        have em : ((last : Int) + (0 + (i : Int))) % 26 = (((last + i) % 26 : Nat) : Int) := by omega
        refine ⟨_, rfl, _, rfl, _, rfl, _, rfl, _, _, rfl, rfl, _, _, rfl, rfl, (by show (0 : Int) < _; decide), lettersS, _, 97 + (last + i) % 26, rfl, rfl, szOk letters_len, (by
          show atI _ (((last : Int) + (0 + (i : Int))) % 26) = _
          rw [em]
          exact atI_nat (letters_at hm)), nm, _, rfl, rfl, ?_, ?_⟩
        · show nm.length + 1 ≤ sizeLine
          exact szOk (by omega)
        · refine ⟨_, rfl, _, rfl, l, _, rfl, .inl (SqL.of hl2), rfl, flat_str _, _, rfl, ?_⟩
          rw [inV_str]
          refine ite2 (fun e => ?_) (fun e => ?_)
          · refine ⟨_, rfl, _, rfl, t, _, rfl, .inl (SqL.of (ht4 _)), rfl, flat_str _, _, rfl, ?_⟩
            rw [inV_str]
            refine ite2 (fun e2 => ?_) (fun e2 => ?_)
            · have n1 : cand nm last i ∉ wordsL := notdec e
              have n2 : cand nm last i ∉ taken := notdec e2
              have lc : (cand nm last i).length = nm.length + 1 := by
                unfold cand
                rw [app_len]
                rfl
              refine ⟨_, rfl, q _ (cand nm last i) ⟨by omega, by omega, n1, alpha_app an hm⟩ n2 ((P3.upd (P3.off hl)).mono (by omega)) ((k2.trans k3).mut ((k2.trans k3).free hl (P3.off hl)))⟩
            · refine ⟨_, _, rfl, rfl, fun j hj => ?_⟩
              by_cases h : j < i
              · exact all j h
              · have e3 : j = i := by omega
                rw [e3]
                exact .inr (dec_of e2)
          · refine iteF ⟨_, _, rfl, rfl, fun j hj => ?_⟩
            by_cases h : j < i
            · exact all j h
            · have e3 : j = i := by omega
              rw [e3]
              exact .inl (dec_of e)
      · rintro σ H' ⟨y', z, rfl, rfl, all⟩
        exact (cand_some (words := wordsL) (by show 13 + taken.length < 26; omega) all).elim
def spLNames : Sp := fun vs H Q _ => ∃ (a : PA) (c : Nat) (n : Nat), vs = [.ref a.p, .int n] ∧ Pool H a c ∧ c < 800000 ∧ n ≤ 12 ∧
  ∀ (H' : Hp) (l : Addr) (zs : List Str), Pool H' a (c + 5 + n * 5) → Kp a H H' → H' l = some (.lst (zs.map V.str)) → Off a l → zs.Nodup → (∀ z ∈ zs, GoodName z) → zs.length = n → Q (.ref l) H'
theorem ok_lnames {f : Addr} {fd : FuncData} (F : Fun K "_law_names" "_law_names" s_law_names f fd) (T : Bi mg) (c_law_draw : Cal P w K mg base 1 "_law_draw" ["_law_pool_here", "_law_many"] spDraw) (c_law_name : Cal P w K mg base 2 "_law_name" ["_law_pool_here", "_law_start", "_law_taken"] spLName) :
    FnOk P w K mg base CX0 3 f fd ["_law_pool_here", "_law_many"] spLNames := by
  refine F.ok sc_law_names (fun vs H Q E h => ?_) (fun cdv A outer s H vs Q E hr h => ?_)
  · obtain ⟨a, c, n, rfl, _⟩ := h
    rfl
  · obtain ⟨a, c, n, rfl, PP, hc, hn, q⟩ := h
    refine ⟨_, (pss_cons (ps_set (i := 2) sc_law_names.nd rfl (.inl rfl) pe_str)
      (pss_cons (ps_set (i := 3) sc_law_names.nd rfl (.inl rfl) pe_str)
      (pss_cons (ps_for PassesOwn.never rfl (pi_range1 (by rfl) T.range (pa_cons (pe_ix ix_list (pe_lst (pa_cons pe_int (pa_cons pe_int (pa_cons pe_int (pa_cons pe_int pa_nil))))) (pe_call c_law_draw.G (hr.mono (by decide)) (by rfl) c_law_draw.g c_law_draw.kp c_law_draw.b .nil pass0 (pa_cons (pv 0) (pa_cons pe_int pa_nil))) (fun _ _ => rfl)) pa_nil)) (pg_name (i := 4) sc_law_names.nd rfl (.inl rfl))
        (pss_one (ps_set (i := 3) sc_law_names.nd rfl (.inl rfl) (pe_op op_add_str (pv 3) (pe_ix ix_str (pv 2) (pe_call c_law_draw.G (hr.mono (by decide)) (by rfl) c_law_draw.g c_law_draw.kp c_law_draw.b .nil pass0 (pa_cons (pv 0) (pa_cons pe_int pa_nil))) (fun _ _ => rfl))))))
      (pss_cons (ps_set (i := 5) sc_law_names.nd rfl (.inl rfl) (pe_lst pa_nil))
      (pss_cons (ps_for PassesOwn.never rfl (pi_range1 (by rfl) T.range (pa_cons (pv 1) pa_nil)) (pg_name (i := 4) sc_law_names.nd rfl (.inl rfl))
        (pss_one (ps_expr (pe_bm PySem.F.plainAttrs_list PySem.F.slot_list_append PySem.F.type_list_append mt_append (pv 5) (pa_cons (pe_call c_law_name.G hr (by rfl) c_law_name.g c_law_name.kp c_law_name.b .nil pass0 (pa_cons (pv 0) (pa_cons (pv 3) (pa_cons (pv 5) pa_nil)))) pa_nil)))))
      (pss_one (ps_ret (pv 5)))))))), ?_⟩
    refine ⟨by show 4 ≤ sizeLine; decide, fun d hd => ⟨_, rfl, a, c, 4, rfl, PP.upd (PP.off hd), by omega, by decide, by decide, fun H1 r r0 r1 P1 k1 => ?_⟩⟩
    have k1' : Kp a H H1 := (skp (same_upd hd)).trans k1
    have hd1 : H1 d = some (.lst [.int 0, .int 0, .int 1, .int 4]) := k1 _ _ upd_same (PP.off hd)
    obtain ⟨v, v0, v1, hv⟩ : ∃ v : Int, 0 ≤ v ∧ v ≤ 4 ∧ atI [V.int 0, .int 0, .int 1, .int 4] r = some (.int v) := by
      have : r = 0 ∨ r = 1 ∨ r = 2 ∨ r = 3 := by omega
      rcases this with rfl | rfl | rfl | rfl
      · exact ⟨0, by decide, by decide, rfl⟩
      · exact ⟨0, by decide, by decide, rfl⟩
      · exact ⟨1, by decide, by decide, rfl⟩
      · exact ⟨4, by decide, by decide, rfl⟩
    refine ⟨d, _, r, .int v, rfl, rfl, SqL.of hd1, hv, v, rfl, by omega, by omega, for_range (lo := 0) (n := v.toNat) (fun i σ H' => ∃ nm y,
      σ = [some (.ref a.p), some (.int n), some (.str lettersS), some (.str nm), y, none] ∧ Alpha nm ∧ nm.length = i ∧ Pool H' a (c + 1 + i) ∧ Kp a H H')
      ⟨Str.ofString "", none, rfl, (fun c hc => absurd hc (by rw [show (Str.ofString "").cps.toList = [] by decide +kernel]; exact List.not_mem_nil)), (by decide +kernel), P1, k1'⟩ ?_ ?_⟩
    · rintro i σ H2 hi ⟨nm, y, rfl, an, ln, P2, k2⟩
      refine ⟨_, rfl, _, rfl, _, rfl, a, _, 26, rfl, P2, by omega, by decide, by decide, fun H3 r' r0' r1' P3 k3 => ?_⟩
      obtain ⟨j, rfl⟩ : ∃ j : Nat, r' = (j : Int) := ⟨r'.toNat, by omega⟩
      have hj : j < 26 := by omega
      refine ⟨lettersS, _, 97 + j, rfl, rfl, szOk letters_len, atI_nat (letters_at hj), nm, _, rfl, rfl, ?_, ?_⟩
      · show nm.length + 1 ≤ sizeLine
        exact szOk (by omega)
      · refine ⟨nm ++ ⟨#[97 + j]⟩, _, rfl, alpha_app an hj, ?_, P3, k2.trans k3⟩
        rw [app_len, ln]
        rfl
    · rintro σ H2 ⟨nm, y, rfl, an, ln, P2, k2⟩
      refine ⟨Nat.zero_le _, fun l hl => ?_⟩
      have ol := P2.off hl
      have hl0 := k2.free hl ol
      refine ⟨_, rfl, n, rfl, by omega, by omega, for_range (lo := 0) (n := (n : Int).toNat) (fun i σ H' => ∃ (zs : List Str) (y : Option V),
        σ = [some (.ref a.p), some (.int n), some (.str lettersS), some (.str nm), y, some (.ref l)] ∧ zs.length = i ∧ zs.Nodup ∧ (∀ z ∈ zs, GoodName z) ∧ H' l = some (.lst (zs.map V.str)) ∧ Pool H' a (c + 5 + i * 5) ∧ Kp a H H')
        ⟨[], _, rfl, rfl, List.nodup_nil, (fun z hz => absurd hz List.not_mem_nil), upd_same, ((P2.mono (by omega)).upd ol), k2.mut hl0⟩ ?_ ?_⟩
      · rintro i σ H3 hi ⟨zs, y', rfl, lz, nz, gz, hz, P3, k3⟩
        refine ⟨_, rfl, .inl ⟨rfl, _, SqL.of hz⟩, _, rfl, _, rfl, _, rfl, a, _, nm, l, zs, rfl, P3, by omega, hz, ol, an, by omega, by omega, fun H4 z g4 n4 P4 k4 => ?_⟩
        have hz4 := k4 _ _ hz ol
        refine ⟨l, _, _, rfl, rfl, hz4, szLt (by rw [List.length_map]; omega), zs ++ [z], _, rfl, ?_, ?_, ?_, ?_, ?_, ?_⟩
        · rw [List.length_append, lz]
          rfl
        · rw [List.nodup_append]
          refine ⟨nz, by simp, fun x hx y hy e => ?_⟩
          have : y = z := by simpa using hy
          rw [this] at e
          exact n4 (by rw [← e]; exact hx)
        · intro x hx
          rcases List.mem_append.mp hx with hx | hx
          · exact gz x hx
          · have : x = z := by simpa using hx
            rw [this]
            exact g4
        · rw [upd_same, List.map_append]
          rfl
        · rw [show c + 5 + (i + 1) * 5 = c + 5 + i * 5 + 5 by omega]
          exact P4.upd ol
        · exact (k3.trans k4).mut hl0
      · rintro σ H3 ⟨zs, y', rfl, lz, nz, gz, hz, P3, k3⟩
        rw [Int.toNat_natCast] at lz P3
        exact ⟨_, rfl, q _ l zs P3 k3 hz ol nz gz lz⟩
end

/-! ### comprehensions that draw over a list, or lay objects -/
section
variable {K : PySem.W.Frag}
theorem lc_listP {a : Addr} {xs : List V} {j : Nat} {tt : TT} {te : TE} {vs : List Nat} {σ : L2.St} {H1 : Hp} {D : Addr} {Qd : Hp → Prop} {A : PA} {c0 : Nat} (k : Nat) (ok : Nat → List V → Prop)
    (P0 : Pool H1 A c0) (hx : H1 a = some (.lst xs)) (ox : Off A a) (hD : H1 D = none) (hn : xs.length ≤ 100000) (h0 : ok 0 []) (hw : ∀ x, wipe ((wipe σ vs).set j (some x)) vs = wipe σ vs)
    (turn : ∀ (i : Nat) (x : V) (H : Hp) (acc : List V), xs[i]? = some x → Pool H A (c0 + i * k) → Kp A H1 H → ok i acc → acc.length ≤ i → ∀ (N1 : V → Hp → Prop) (N2 : Hp → Prop),
      (∀ y H', Pool H' A (c0 + i * k + k) → Kp A H H' → ok (i + 1) (acc ++ [y]) → N1 y H') → (∀ H', Pool H' A (c0 + i * k + k) → Kp A H H' → ok (i + 1) acc → N2 H') →
      tt ((wipe σ vs).set j (some x)) H fun b H3 => if b = true then te ((wipe σ vs).set j (some x)) H3 N1 else N2 H3)
    (done : ∀ (H : Hp) (acc : List V), Pool H A (c0 + xs.length * k) → Kp A H1 H → H D = some (.lst acc) → acc.length ≤ xs.length → ok xs.length acc → Off A D → Qd H) :
    ∃ W : Nat → Nat → Hp → Prop, (∃ m, W 0 m (upd H1 D (.lst []))) ∧ ∀ i m H, W i m H →
      ((Itl K a).stop i H ∧ Qd H) ∨ ((Itl K a).go i H ∧ ∃ Nx : Hp → Prop, (∀ H', Nx H' → ∃ m', m' < m ∧ W (i + 1) m' H') ∧ ∀ x H', (Itl K a).yld i H x H' → (gName j) x (wipe σ vs) H' fun σ2 H2 => wipe σ2 vs = wipe σ vs ∧ tt σ2 H2 fun b H3 =>
        if b = true then te σ2 H3 fun y H4 => ∃ acc, H4 D = some (.lst acc) ∧ acc.length < sizeLine ∧ Nx (upd H4 D (.lst (acc ++ [y]))) else Nx H3) := by
  have oD : Off A D := P0.off hD
  refine lc_list (xs := xs) (fun i H => ∃ acc, Pool H A (c0 + i * k) ∧ Kp A H1 H ∧ H D = some (.lst acc) ∧ acc.length ≤ i ∧ ok i acc) ⟨[], ?_, skp (same_upd hD), upd_same, Nat.le_refl _, h0⟩ (fun i H _ p => ?_) (fun i x H hi p => ?_) (fun H p => ?_)
  · rw [Nat.zero_mul]
    exact P0.upd oD
  · obtain ⟨acc, p1, p2, _⟩ := p
    exact SqL.of (p2 _ _ hx ox)
  · obtain ⟨acc, p1, p2, p3, p4, p5⟩ := p
    have hil : i < xs.length := (List.getElem?_eq_some_iff.mp hi).1
    refine ⟨hw _, turn i x H acc hi p1 p2 p5 p4 _ _ (fun y H' q1 q2 q3 => ⟨acc, q2 _ _ p3 oD, szLt (by omega), acc ++ [y], ?_, ?_, upd_same, ?_, q3⟩) (fun H' q1 q2 q3 => ⟨acc, ?_, p2.trans q2, q2 _ _ p3 oD, by omega, q3⟩)⟩
    · rw [Nat.succ_mul, ← Nat.add_assoc]
      exact q1.upd oD
    · exact Kp.mut (p2.trans q2) hD
    · rw [List.length_append]
      show acc.length + 1 ≤ i + 1
      omega
    · rw [Nat.succ_mul, ← Nat.add_assoc]
      exact q1
  · obtain ⟨acc, p1, p2, p3, p4, p5⟩ := p
    exact done H acc p1 p2 p3 p4 p5 oD
theorem lc_rangeH {lo : Int} {n j : Nat} {tt : TT} {te : TE} {vs : List Nat} {σ : L2.St} {H1 : Hp} {D : Addr} {Qd : Hp → Prop} (ok : Nat → Hp → List V → Prop) (st : ∀ i H H' acc, Imm H H' → ok i H acc → ok i H' acc)
    (hD : H1 D = none) (hn : n ≤ 100000) (h0 : ∀ H, ok 0 H []) (hw : ∀ x, wipe ((wipe σ vs).set j (some x)) vs = wipe σ vs)
    (turn : ∀ (i : Nat) (H : Hp) (acc : List V), i < n → Same H1 H → ok i H acc → acc.length ≤ i → ∀ (N1 : V → Hp → Prop) (N2 : Hp → Prop),
      (∀ y H', Same H H' → ok (i + 1) H' (acc ++ [y]) → N1 y H') → (∀ H', Same H H' → ok (i + 1) H' acc → N2 H') →
      tt ((wipe σ vs).set j (some (.int (lo + i)))) H fun b H3 => if b = true then te ((wipe σ vs).set j (some (.int (lo + i)))) H3 N1 else N2 H3)
    (done : ∀ (H : Hp) (acc : List V), Same H1 H → H D = some (.lst acc) → acc.length ≤ n → ok n H acc → Qd H) :
    ∃ W : Nat → Nat → Hp → Prop, (∃ m, W 0 m (upd H1 D (.lst []))) ∧ ∀ i m H, W i m H →
      ((Itr lo n).stop i H ∧ Qd H) ∨ ((Itr lo n).go i H ∧ ∃ Nx : Hp → Prop, (∀ H', Nx H' → ∃ m', m' < m ∧ W (i + 1) m' H') ∧ ∀ x H', (Itr lo n).yld i H x H' → (gName j) x (wipe σ vs) H' fun σ2 H2 => wipe σ2 vs = wipe σ vs ∧ tt σ2 H2 fun b H3 =>
        if b = true then te σ2 H3 fun y H4 => ∃ acc, H4 D = some (.lst acc) ∧ acc.length < sizeLine ∧ Nx (upd H4 D (.lst (acc ++ [y]))) else Nx H3) := by
  refine lc_range (lo := lo) (n := n) (fun i H => ∃ acc, Same H1 H ∧ H D = some (.lst acc) ∧ acc.length ≤ i ∧ ok i H acc) ⟨[], same_upd hD, upd_same, Nat.le_refl _, h0 _⟩ (fun i H hi p => ?_) (fun H p => ?_)
  · obtain ⟨acc, p2, p3, p4, p5⟩ := p
    refine ⟨hw _, turn i H acc hi p2 p5 p4 _ _ (fun y H' q2 q3 => ⟨acc, q2 _ _ p3, szLt (by omega), acc ++ [y], smut (p2.trans q2) hD, upd_same, ?_, st _ _ _ _ (Imm.list (q2 _ _ p3)) q3⟩) (fun H' q2 q3 => ⟨acc, p2.trans q2, q2 _ _ p3, by omega, q3⟩)⟩
    rw [List.length_append]
    show acc.length + 1 ≤ i + 1
    omega
  · obtain ⟨acc, p2, p3, p4, p5⟩ := p
    exact done H acc p2 p3 p4 p5
end
section
variable {X : Cx}
theorem un65 {k : Nat} {A : Around} (r : Room k A) : A.units + 65 < cLine := by
  have := r.un
  omega
theorem inD (K : PySem.W.Frag) (hu : X.A.units + 65 < cLine) (h : X.K = K := by rfl) : OpR X (compareOp .In) (rInD K) := by
  subst h
  exact op_inD hu
end

/-! ### sorted names rise -/
theorem nlt_trans {a b c : List Nat} (h1 : ¬ b < a) (h2 : ¬ c < b) : ¬ c < a := by
  rw [List.not_lt] at *
  exact List.le_trans h1 h2
theorem lt_of {a b : List Nat} (h : ¬ b < a) (n : a ≠ b) : a < b := by
  rw [List.not_lt] at h
  rcases List.le_iff_lt_or_eq.mp h with h | h
  · exact h
  · exact absurd h n
theorem rising_pw : ∀ (l : List Str) (p : Str), risingS p l = true → (p :: l).Pairwise (fun x y => ¬ y.cps.toList < x.cps.toList)
  | [], p, _ => List.pairwise_singleton _ _
  | x :: r, p, h => by
    have h' : (!Spec.ltCps x.cps.toList p.cps.toList && risingS x r) = true := h
    rw [Bool.and_eq_true, ltCps_eq] at h'
    have ih := rising_pw r x h'.2
    refine List.pairwise_cons.mpr ⟨fun y hy => ?_, ih⟩
    rcases List.mem_cons.mp hy with rfl | hy
    · exact notdec h'.1
    · exact nlt_trans (notdec h'.1) ((List.pairwise_cons.mp ih).1 y hy)
theorem sorted_rise {ys : List Str} (h : sortedS ys = true) (nd : ys.Nodup) (g : ∀ z ∈ ys, GoodName z) : RiseS ys := by
  refine ⟨?_, g⟩
  have pw : ys.Pairwise (fun x y => ¬ y.cps.toList < x.cps.toList) := by
    cases ys with
    | nil => exact List.Pairwise.nil
    | cons x r => exact rising_pw r x h
  exact (pw.and nd).imp fun {x y} h => lt_of h.1 fun e => h.2 (Str.ext' (Array.toList_inj.mp e))

/-! ### _law_machine -/
abbrev s_law_machine : Stmt := topS 23
theorem sc_law_machine : FnScope ["_law_pool_here", "_law_names_here", "_law_most", "_law_many", "_law_dense", "_law_steps", "_law_marks", "_law_k", "_law_to", "_law_name_here"] ["_law_pool_here", "_law_names_here", "_law_most"] (defScope s_law_machine) := ⟨rfl, rfl, rfl, by decide +kernel, rfl, by decide +kernel, by decide +kernel⟩
section
variable {P : Program} {w : World} {K : PySem.W.Frag} {mg : Str → Option Value} {base : Heap}
def spLMach (K : PySem.W.Frag) : Sp := fun vs H Q _ => ∃ (A : PA) (c : Nat) (l : Addr) (zs : List Str) (most : Nat), vs = [.ref A.p, .ref l, .int most] ∧ Pool H A c ∧ c < 700000 ∧ H l = some (.lst (zs.map V.str)) ∧ Off A l ∧ zs.Nodup ∧ (∀ z ∈ zs, GoodName z) ∧ zs.length ≤ 8 ∧ 1 ≤ most ∧ most ≤ 8 ∧
  ∀ (H' : Hp) (m : Addr) (steps : List (List Int)) (marks : List (List Str)), Pool H' A (c + 2 + most * 20) → Kp A H H' → MachAt K H' m steps marks → GoodMach steps marks → steps.length ≤ most → Q (.ref m) H'
theorem ok_lmach {f : Addr} {fd : FuncData} (F : Fun K "_law_machine" "_law_machine" s_law_machine f fd) (T : Bi mg) (c_law_draw : Cal P w K mg base 1 "_law_draw" ["_law_pool_here", "_law_many"] spDraw) : FnOk P w K mg base CX0 2 f fd ["_law_pool_here", "_law_names_here", "_law_most"] (spLMach K) := by
  refine F.ok sc_law_machine (fun vs H Q E h => ?_) (fun cdv A outer s H vs Q E hr h => ?_)
  · obtain ⟨A, c, l, zs, most, rfl, _⟩ := h
    rfl
  · obtain ⟨PL, c, l, zs, most, rfl, P0, hc, hl, ol, nz, gz, lz, m0, m1, q⟩ := h
    refine ⟨_, (pss_cons (ps_set (i := 3) sc_law_machine.nd rfl (.inl rfl) (pe_op op_add pe_int (pe_call c_law_draw.G hr (by rfl) c_law_draw.g c_law_draw.kp c_law_draw.b .nil pass0 (pa_cons (pv 0) (pa_cons (pv 2) pa_nil)))))
      (pss_cons (ps_set (i := 4) sc_law_machine.nd rfl (.inr rfl) (pe_op op_add pe_int (pe_call c_law_draw.G hr (by rfl) c_law_draw.g c_law_draw.kp c_law_draw.b .nil pass0 (pa_cons (pv 0) (pa_cons pe_int pa_nil)))))
      (pss_cons (ps_set (i := 5) sc_law_machine.nd rfl (.inl rfl) (pe_lst pa_nil))
      (pss_cons (ps_set (i := 6) sc_law_machine.nd rfl (.inl rfl) (pe_lst pa_nil))
      (pss_cons (ps_for PassesOwn.never rfl (pi_range1 (by rfl) T.range (pa_cons (pv 3) pa_nil)) (pg_name (i := 7) sc_law_machine.nd rfl (.inl rfl))
        (pss_cons (ps_expr (pe_bm PySem.F.plainAttrs_list PySem.F.slot_list_append PySem.F.type_list_append mt_append (pv 5) (pa_cons (pe_callTy call_tuple_of (by rfl) T.tuple (by decide +kernel) (pa_cons (pe_lc (own := [("_law_to", 8)]) (g := gName 8) rfl sc_law_machine.nd (pi_range1 (by rfl) T.range (pa_cons (pv 3) pa_nil)) (blkOk_by (own := [("_law_to", 8)]) (N := ["_law_pool_here", "_law_names_here", "_law_most", "_law_many", "_law_dense", "_law_steps", "_law_marks", "_law_k", "_law_to", "_law_name_here"]) (sc := defScope s_law_machine) (by decide +kernel)) (fun _ _ _ _ _ => (pg_name (i := 8) sc_law_machine.nd rfl (.inl rfl))) (fun _ _ _ _ _ => (pts_one (pt_cmpR op_lt (pe_call c_law_draw.G hr (by rfl) c_law_draw.g c_law_draw.kp c_law_draw.b .nil pass0 (pa_cons (pv 0) (pa_cons pe_int pa_nil))) (pv 4) (nomark _)))) (fun _ _ _ _ _ => (pv 8))) pa_nil)) pa_nil)))
        (pss_one (ps_expr (pe_bm PySem.F.plainAttrs_list PySem.F.slot_list_append PySem.F.type_list_append mt_append (pv 6) (pa_cons (pe_callTy call_tuple_of (by rfl) T.tuple (by decide +kernel) (pa_cons (pe_callB cr_sortedS (by rfl) T.sorted (by decide +kernel) (pa_cons (pe_lc (own := [("_law_name_here", 9)]) (g := gName 9) rfl sc_law_machine.nd (pi_list (pv 1)) (blkOk_by (own := [("_law_name_here", 9)]) (N := ["_law_pool_here", "_law_names_here", "_law_most", "_law_many", "_law_dense", "_law_steps", "_law_marks", "_law_k", "_law_to", "_law_name_here"]) (sc := defScope s_law_machine) (by decide +kernel)) (fun _ _ _ _ _ => (pg_name (i := 9) sc_law_machine.nd rfl (.inl rfl))) (fun _ _ _ _ _ => (pts_one (pt_cmpR op_eq (pe_call c_law_draw.G hr (by rfl) c_law_draw.g c_law_draw.kp c_law_draw.b .nil pass0 (pa_cons (pv 0) (pa_cons pe_int pa_nil))) pe_int (nomark _)))) (fun _ _ _ _ _ => (pv 9))) pa_nil)) pa_nil)) pa_nil))))))
      (pss_one (ps_ret (pe_tup (pa_cons (pe_callTy call_tuple_of (by rfl) T.tuple (by decide +kernel) (pa_cons (pv 5) pa_nil)) (pa_cons (pe_callTy call_tuple_of (by rfl) T.tuple (by decide +kernel) (pa_cons (pv 6) pa_nil)) pa_nil)))))))))), ?_⟩
    refine ⟨_, rfl, _, rfl, PL, c, _, rfl, P0, by omega, by omega, by omega, fun H1 x x0 x1 P1 K1 => ?_⟩
    obtain ⟨x, rfl⟩ : ∃ j : Nat, x = (j : Int) := ⟨x.toNat, by omega⟩
    refine ⟨_, _, rfl, rfl, _, rfl, PL, _, 4, rfl, P1, by omega, by decide, by decide, fun H2 y _ _ P2 K2 => ⟨_, _, rfl, rfl, Nat.zero_le _, fun ls hls => ⟨Nat.zero_le _, fun lm hlm => ?_⟩⟩⟩
    have K02 := K1.trans K2
    have os := P2.off hls
    have hls0 := K02.free hls os
    have P3 := P2.upd (o := .lst []) os
    have om := P3.off hlm
    have nsm : ls ≠ lm := fun e => by
      rw [← e, upd_same] at hlm
      cases hlm
    have hlm' : H2 lm = none := by
      rw [← hlm, upd_ne nsm.symm]
    have hlm0 := K02.free hlm' om
    refine ⟨_, rfl, 1 + (x : Int), rfl, by omega, by omega, for_range (lo := 0) (n := (1 + (x : Int)).toNat) (fun i σ H' => ∃ (sa ka : List Addr) (steps : List (List Int)) (marks : List (List Str)) (y7 : Option V),
      σ = [some (.ref PL.p), some (.ref l), some (.int most), some (.int (1 + (x : Int))), some (.int (1 + y)), some (.ref ls), some (.ref lm), y7, none, none] ∧ Pool H' PL (c + 2 + i * 20) ∧ Kp PL H H' ∧ H' ls = some (.lst (sa.map V.ref)) ∧ H' lm = some (.lst (ka.map V.ref)) ∧
      Each (fun a ns => SqT K H' a (List.map V.int ns)) sa steps ∧ Each (fun a zs => SqT K H' a (List.map V.str zs)) ka marks ∧ steps.length = i ∧ marks.length = i ∧ (∀ r ∈ steps, RiseI (1 + (x : Int)) r) ∧ (∀ r ∈ marks, RiseS r ∧ r.length ≤ 8))
      ⟨[], [], [], [], none, rfl, ?_, (K02.mut hls0).mut hlm0, ?_, upd_same, .nil, .nil, rfl, rfl, fun _ h => absurd h List.not_mem_nil, fun _ h => absurd h List.not_mem_nil⟩ ?_ ?_⟩
    · exact P3.upd om
    · rw [upd_ne nsm, upd_same]
      rfl
    · rintro i σ H6 hi ⟨sa, ka, steps, marks, y7, rfl, P6, K6, g1, g2, g4, g5, g6, g7, g8, g9⟩
      have hi' : i < 8 := by omega
      have lsa : sa.length = i := by rw [g4.len, g6]
      have lka : ka.length = i := by rw [g5.len, g7]
      -- steps.append(..)
      refine ⟨_, rfl, .inl ⟨rfl, _, SqL.of g1⟩, _, rfl, _, rfl, by omega, by omega, fun D hD => lc_rangeP (a := PL) 1 (fun i acc => ∃ gs : List Int, acc = gs.map V.int ∧ gs.Pairwise (· < ·) ∧ ∀ n ∈ gs, 0 ≤ n ∧ n < i) P6 hD (by omega) ⟨[], rfl, List.Pairwise.nil, fun _ h => absurd h List.not_mem_nil⟩ (fun _ => rfl) ?_ ?_⟩
      · rintro j H7 acc hj P7 K7 ⟨gs, rfl, pw, bd⟩ _ N1 N2 k1 k2
        refine ⟨_, rfl, PL, _, 6, rfl, P7, by omega, by decide, by decide, fun H8 d _ _ P8 K8 => ⟨_, rfl, _, _, rfl, rfl, _, rfl, ite2 (fun _ => ?_) (fun _ => ?_)⟩⟩
        · refine ⟨_, rfl, k1 _ _ P8 K8 ⟨gs ++ [(j : Int)], by rw [List.map_append, Int.zero_add]; rfl, ?_, ?_⟩⟩
          · refine List.pairwise_append.mpr ⟨pw, List.pairwise_singleton _ _, fun x hx y hy => ?_⟩
            rw [List.mem_singleton.mp hy]
            exact (bd x hx).2
          · intro n hn
            rcases List.mem_append.mp hn with hn | hn
            · have := bd n hn
              omega
            · rw [List.mem_singleton.mp hn]
              omega
        · exact k2 _ P8 K8 ⟨gs, rfl, pw, fun n hn => by have := bd n hn; omega⟩
      rintro H7 acc P7 K7 hD7 _ ⟨gs, rfl, pw, bd⟩ oD
      refine ⟨D, _, rfl, .inl ⟨SqL.of hD7, fun t ht => ?_⟩⟩
      have st := same_upd (o := .tup (gs.map V.int)) ht
      have g1' := st _ _ (K7 _ _ g1 os)
      have g2' := st _ _ (K7 _ _ g2 om)
      refine ⟨ls, _, _, rfl, rfl, g1', szLt (by rw [List.length_map]; omega), ?_⟩
      have tls : t ≠ ls := (ne_of_none (K7 _ _ g1 os) ht).symm
      have P8 : Pool (upd (upd H7 t (.tup (gs.map V.int))) ls (.lst (sa.map V.ref ++ [.ref t]))) PL (c + 2 + i * 20 + 8) := ((P7.same st).upd os).mono (by omega)
      have K8 : Kp PL H (upd (upd H7 t (.tup (gs.map V.int))) ls (.lst (sa.map V.ref ++ [.ref t]))) := ((K6.trans K7).trans (skp st)).mut hls0
      have e78 : Imm H6 (upd (upd H7 t (.tup (gs.map V.int))) ls (.lst (sa.map V.ref ++ [.ref t]))) := ((P6.imm K7).trans (simm st)).trans (Imm.list g1')
      have h1 : upd (upd H7 t (.tup (gs.map V.int))) ls (.lst (sa.map V.ref ++ [.ref t])) ls = some (.lst ((sa ++ [t]).map V.ref)) := by
        rw [upd_same, List.map_append]
        rfl
      have h2 : upd (upd H7 t (.tup (gs.map V.int))) ls (.lst (sa.map V.ref ++ [.ref t])) lm = some (.lst (ka.map V.ref)) := by
        rw [upd_ne nsm.symm]
        exact g2'
      have h4 := Each.snoc (R := fun a ns => SqT K _ a (List.map V.int ns)) (a := t) (x := gs) (SqT.of (by rw [upd_ne tls, upd_same])) (g4.imp fun _ _ h => e78.sq h)
      have h5 := g5.imp fun _ _ h => e78.sq h
      generalize upd (upd H7 t (.tup (gs.map V.int))) ls (.lst (sa.map V.ref ++ [.ref t])) = H8 at P8 K8 h1 h2 h4 h5 ⊢
      have hl8 := K8 _ _ hl ol
      have bd' : ∀ n ∈ gs, 0 ≤ n ∧ n < 1 + (x : Int) := fun n hn => by
        have := bd n hn
        omega
      -- marks.append(..)
      refine ⟨_, rfl, .inl ⟨rfl, _, SqL.of h2⟩, _, rfl, l, rfl, ⟨_, SqL.of hl8⟩, fun D2 hD2 => lc_listP (a := l) (A := PL) 1 (fun i acc => ∃ ss : List Str, acc = ss.map V.str ∧ ss.Sublist (zs.take i)) P8 hl8 ol hD2 (by rw [List.length_map]; omega) ⟨[], rfl, List.nil_sublist _⟩ (fun _ => rfl) ?_ ?_⟩
      · rintro j x H9 acc hx P9 K9 ⟨ss, rfl, sub⟩ _ N1 N2 k1 k2
        obtain ⟨z, hz, rfl⟩ := map_get hx
        have hj : j < zs.length := (List.getElem?_eq_some_iff.mp hz).1
        have etk : zs.take (j + 1) = zs.take j ++ [z] := by
          rw [List.take_add_one, hz]
          rfl
        refine ⟨_, rfl, PL, _, 2, rfl, P9, by omega, by decide, by decide, fun H10 d _ _ P10 K10 => ⟨rfl, _, rfl, ite2 (fun _ => ⟨_, rfl, k1 _ _ P10 K10 ⟨ss ++ [z], by rw [List.map_append]; rfl, ?_⟩⟩) (fun _ => k2 _ P10 K10 ⟨ss, rfl, ?_⟩)⟩⟩
        · rw [etk]
          exact sub.append (List.Sublist.refl _)
        · rw [etk]
          exact sub.trans (List.sublist_append_left _ _)
      rintro H9 acc P9 K9 hD9 _ ⟨ss, rfl, sub⟩ oD2
      rw [List.length_map] at P9 sub
      have sub' : ss.Sublist zs := sub.trans (List.take_sublist _ _)
      have lss := sub'.length_le
      refine ⟨D2, ss, rfl, SqL.of hD9, by omega, fun ys p pm so hp => ?_⟩
      have lys := pm.length_eq
      have s10 : Same H9 (upd H9 p (.lst (ys.map V.str))) := same_upd hp
      refine ⟨p, _, rfl, .inl ⟨SqL.of upd_same, fun t2 ht2 => ?_⟩⟩
      have s11 := s10.trans (same_upd (o := .tup (ys.map V.str)) ht2)
      have h2' := s11 _ _ (K9 _ _ h2 om)
      refine ⟨lm, _, _, rfl, rfl, h2', szLt (by rw [List.length_map]; omega), ?_⟩
      have t2m : t2 ≠ lm := (ne_of_none (s10 _ _ (K9 _ _ h2 om)) ht2).symm
      have e12 := ((P8.imm K9).trans (simm s11)).trans (Imm.list (o := .lst (ka.map V.ref ++ [.ref t2])) h2')
      refine ⟨sa ++ [t], ka ++ [t2], steps ++ [gs], marks ++ [ys], some (.int (0 + i)), rfl, ?_, ?_, ?_, ?_, h4.imp fun _ _ h => e12.sq h, ?_, ?_, ?_, ?_, ?_⟩
      · exact ((P9.same s11).upd om).mono (by omega)
      · exact ((K8.trans K9).trans (skp s11)).mut hlm0
      · rw [upd_ne nsm]
        exact s11 _ _ (K9 _ _ h1 os)
      · rw [upd_same, List.map_append]
        rfl
      · exact Each.snoc (R := fun a zs => SqT K _ a (List.map V.str zs)) (a := t2) (x := ys) (SqT.of (by rw [upd_ne t2m, upd_same])) (h5.imp fun _ _ h => e12.sq h)
      · rw [List.length_append, g6]
        rfl
      · rw [List.length_append, g7]
        rfl
      · intro r hr
        rcases List.mem_append.mp hr with hr | hr
        · exact g8 r hr
        · rw [List.mem_singleton.mp hr]
          exact ⟨pw, bd'⟩
      · intro r hr
        rcases List.mem_append.mp hr with hr | hr
        · exact g9 r hr
        · rw [List.mem_singleton.mp hr]
          exact ⟨sorted_rise so (pm.nodup_iff.mpr (nz.sublist sub')) fun z hz => gz z (sub'.subset (pm.mem_iff.mp hz)), by omega⟩
    · rintro σ H6 ⟨sa, ka, steps, marks, y7, rfl, P6, K6, g1, g2, g4, g5, g6, g7, g8, g9⟩
      refine ⟨_, rfl, ls, _, rfl, .inl ⟨SqL.of g1, fun s hs => ?_⟩⟩
      have s1 : Same H6 (upd H6 s (.tup (sa.map V.ref))) := same_upd hs
      refine ⟨_, rfl, lm, _, rfl, .inl ⟨SqL.of (s1 _ _ g2), fun k hk => ⟨by show 2 ≤ sizeLine; decide, fun m hm => ?_⟩⟩⟩
      have sk := same_upd (o := .tup (ka.map V.ref)) hk
      have sm := same_upd (o := .tup [.ref s, .ref k]) hm
      have s3 := (s1.trans sk).trans sm
      refine q _ m steps marks ((P6.same s3).mono (by omega)) (K6.trans (skp s3)) ⟨s, k, sa, ka, SqT.of upd_same, ssqt (sk.trans sm) (SqT.of upd_same), ssqt sm (SqT.of upd_same), g4.imp fun _ _ h => (simm s3).sq h, g5.imp fun _ _ h => (simm s3).sq h⟩ ⟨by omega, by omega, by omega, ?_, g9⟩ (by omega)
      intro r hr
      have := g8 r hr
      rw [show (1 + (x : Int)) = (steps.length : Int) by omega] at this
      exact this
end

abbrev s_law_great_machine : Stmt := topS 24
theorem sc_law_great_machine : FnScope ["_law_pool_here", "_law_names_here", "_law_many", "_law_dense", "_law_steps", "_law_marks", "_law_k", "_law_bits", "_law_worn", "_law_to", "_law_j"] ["_law_pool_here", "_law_names_here"] (defScope s_law_great_machine) := ⟨rfl, rfl, rfl, by decide +kernel, rfl, by decide +kernel, by decide +kernel⟩
section
variable {P : Program} {w : World} {K : PySem.W.Frag} {mg : Str → Option Value} {base : Heap}
def spGreat (K : PySem.W.Frag) : Sp := fun vs H Q _ => ∃ (a : PA) (c : Nat) (l : Addr) (zs : List Str), vs = [.ref a.p, .ref l] ∧ Pool H a c ∧ c < 700000 ∧ H l = some (.lst (zs.map V.str)) ∧ Off a l ∧ zs.Nodup ∧ (∀ z ∈ zs, GoodName z) ∧ zs.length ≤ 8 ∧
  ∀ (H' : Hp) (m : Addr) (steps : List (List Int)) (marks : List (List Str)), Pool H' a (c + 203) → Kp a H H' → MachAt K H' m steps marks → GoodMach steps marks → Q (.ref m) H'
theorem ok_great {f : Addr} {fd : FuncData} (F : Fun K "_law_great_machine" "_law_great_machine" s_law_great_machine f fd) (T : Bi mg) (c_law_draw : Cal P w K mg base 1 "_law_draw" ["_law_pool_here", "_law_many"] spDraw) : FnOk P w K mg base CX0 2 f fd ["_law_pool_here", "_law_names_here"] (spGreat K) := by
  refine F.ok sc_law_great_machine (fun vs H Q E h => ?_) (fun cdv A outer s H vs Q E hr h => ?_)
  · obtain ⟨a, c, l, zs, rfl, _⟩ := h
    rfl
  · obtain ⟨a, c, l, zs, rfl, PP, hc, hl, ol, nz, gz, lz, q⟩ := h
    refine ⟨_, (pss_cons (ps_set (i := 2) sc_law_great_machine.nd rfl (.inl rfl) (pe_op op_add pe_int (pe_call c_law_draw.G hr (by rfl) c_law_draw.g c_law_draw.kp c_law_draw.b .nil pass0 (pa_cons (pv 0) (pa_cons pe_int pa_nil)))))
      (Evl.pss_cut (ps_if (pt_cmpR op_eq (pe_call c_law_draw.G hr (by rfl) c_law_draw.g c_law_draw.kp c_law_draw.b .nil pass0 (pa_cons (pv 0) (pa_cons pe_int pa_nil))) pe_int (nomark _))
        (pss_one (ps_set (i := 2) sc_law_great_machine.nd rfl (.inl rfl) pe_int))
        pss_nil)
      (pss_cons (ps_set (i := 3) sc_law_great_machine.nd rfl (.inl rfl) (pe_call c_law_draw.G hr (by rfl) c_law_draw.g c_law_draw.kp c_law_draw.b .nil pass0 (pa_cons (pv 0) (pa_cons pe_int pa_nil))))
      (pss_cons (ps_set (i := 4) sc_law_great_machine.nd rfl (.inl rfl) (pe_lst pa_nil))
      (pss_cons (ps_set (i := 5) sc_law_great_machine.nd rfl (.inl rfl) (pe_lst pa_nil))
      (pss_cons (ps_for PassesOwn.never rfl (pi_range1 (by rfl) T.range (pa_cons (pv 2) pa_nil)) (pg_name (i := 6) sc_law_great_machine.nd rfl (.inl rfl))
        (pss_cons (ps_set (i := 7) sc_law_great_machine.nd rfl (.inr rfl) (pe_lst (pa_cons (pe_call c_law_draw.G hr (by rfl) c_law_draw.g c_law_draw.kp c_law_draw.b .nil pass0 (pa_cons (pv 0) (pa_cons pe_int pa_nil))) (pa_cons (pe_call c_law_draw.G hr (by rfl) c_law_draw.g c_law_draw.kp c_law_draw.b .nil pass0 (pa_cons (pv 0) (pa_cons pe_int pa_nil))) pa_nil))))
        (Evl.pss_cut (ps_if (pt_cmpR op_gt (pv 3) pe_int (nomark _))
          (pss_one (ps_set (i := 7) sc_law_great_machine.nd rfl (.inr rfl) (pe_lst (pa_cons (pe_op op_and (pe_ix ix_list (pv 7) pe_int (fun _ _ => rfl)) (pe_call c_law_draw.G hr (by rfl) c_law_draw.g c_law_draw.kp c_law_draw.b .nil pass0 (pa_cons (pv 0) (pa_cons pe_int pa_nil)))) (pa_cons (pe_op op_and (pe_ix ix_list (pv 7) pe_int (fun _ _ => rfl)) (pe_call c_law_draw.G hr (by rfl) c_law_draw.g c_law_draw.kp c_law_draw.b .nil pass0 (pa_cons (pv 0) (pa_cons pe_int pa_nil)))) pa_nil)))))
          pss_nil)
        (pss_cons (ps_expr (pe_bm PySem.F.plainAttrs_list PySem.F.slot_list_append PySem.F.type_list_append mt_append (pv 4) (pa_cons (pe_callTy call_tuple_of (by rfl) T.tuple (by decide +kernel) (pa_cons (pe_lc (own := [("_law_to", 9)]) (g := gName 9) rfl sc_law_great_machine.nd (pi_range1 (by rfl) T.range (pa_cons (pv 2) pa_nil)) (blkOk_by (own := [("_law_to", 9)]) (N := ["_law_pool_here", "_law_names_here", "_law_many", "_law_dense", "_law_steps", "_law_marks", "_law_k", "_law_bits", "_law_worn", "_law_to", "_law_j"]) (sc := defScope s_law_great_machine) (by decide +kernel)) (fun _ _ _ _ _ => (pg_name (i := 9) sc_law_great_machine.nd rfl (.inl rfl))) (fun _ _ _ _ _ => (pts_one (pt_cmpR op_eq (pe_op op_and (pe_op op_shr (pe_ix (ixL K) (pv 7) (pe_op op_fdiv (pv 9) pe_int) (fun _ _ => rfl)) (pe_op op_mod (pv 9) pe_int)) pe_int) pe_int (nomark _)))) (fun _ _ _ _ _ => (pv 9))) pa_nil)) pa_nil)))
        (pss_cons (ps_set (i := 8) sc_law_great_machine.nd rfl (.inr rfl) (pe_call c_law_draw.G hr (by rfl) c_law_draw.g c_law_draw.kp c_law_draw.b .nil pass0 (pa_cons (pv 0) (pa_cons pe_int pa_nil))))
        (pss_one (ps_expr (pe_bm PySem.F.plainAttrs_list PySem.F.slot_list_append PySem.F.type_list_append mt_append (pv 5) (pa_cons (pe_callTy call_tuple_of (by rfl) T.tuple (by decide +kernel) (pa_cons (pe_callB cr_sortedS (by rfl) T.sorted (by decide +kernel) (pa_cons (pe_lc (own := [("_law_j", 10)]) (g := gName 10) rfl sc_law_great_machine.nd (pi_range1 (by rfl) T.range (pa_cons (pe_callB call_len_seq (by rfl) T.len PySem.boot_len (pa_cons (pv 1) pa_nil)) pa_nil)) (blkOk_by (own := [("_law_j", 10)]) (N := ["_law_pool_here", "_law_names_here", "_law_many", "_law_dense", "_law_steps", "_law_marks", "_law_k", "_law_bits", "_law_worn", "_law_to", "_law_j"]) (sc := defScope s_law_great_machine) (by decide +kernel)) (fun _ _ _ _ _ => (pg_name (i := 10) sc_law_great_machine.nd rfl (.inl rfl))) (fun _ _ _ _ _ => (pts_one (pt_cmpR op_eq (pe_op op_and (pe_op op_shr (pv 8) (pv 10)) pe_int) pe_int (nomark _)))) (fun _ _ _ _ _ => (pe_ix (ixL K) (pv 1) (pv 10) (fun _ _ => rfl)))) pa_nil)) pa_nil)) pa_nil)))))))))
      (pss_one (ps_ret (pe_tup (pa_cons (pe_callTy call_tuple_of (by rfl) T.tuple (by decide +kernel) (pa_cons (pv 4) pa_nil)) (pa_cons (pe_callTy call_tuple_of (by rfl) T.tuple (by decide +kernel) (pa_cons (pv 5) pa_nil)) pa_nil))))))))))), ?_⟩
    -- many
    refine ⟨_, rfl, a, c, 40, rfl, PP, by omega, by decide, by decide, fun H1 r r0 r1 P1 k1 => ⟨_, _, rfl, rfl, ?_⟩⟩
    refine ⟨fun σ H' => ∃ many : Nat, σ = [some (.ref a.p), some (.ref l), some (.int many), none, none, none, none, none, none, none, none] ∧ 1 ≤ many ∧ many ≤ 40 ∧ Pool H' a (c + 2) ∧ Kp a H H', ?_, ?_⟩
    · refine ⟨_, rfl, a, _, 4, rfl, P1, by omega, by decide, by decide, fun H2 r' _ _ P2 k2 => ⟨rfl, _, rfl, ite2 (fun _ => ?_) (fun _ => ?_)⟩⟩
      · exact ⟨40, rfl, by decide, by decide, P2, k1.trans k2⟩
      · refine ⟨(1 + r).toNat, ?_, by omega, by omega, P2, k1.trans k2⟩
        rw [show (((1 + r).toNat : Nat) : Int) = 1 + r by omega]
        rfl
    · rintro σ H2 ⟨many, rfl, m1, m2, P2, k2⟩
      -- dense, steps, marks
      refine ⟨_, rfl, a, _, 3, rfl, P2, by omega, by decide, by decide, fun H3 dense _ _ P3 k3 => ⟨Nat.zero_le _, fun ls hls => ⟨Nat.zero_le _, fun lm hlm => ?_⟩⟩⟩
      have os := P3.off hls
      have hls0 := (k2.trans k3).free hls os
      have P4 := P3.upd (o := .lst []) os
      have om := P4.off hlm
      have nsm : ls ≠ lm := fun e => by
        rw [← e, upd_same] at hlm
        cases hlm
      have hlm' : H3 lm = none := by
        rw [← hlm, upd_ne nsm.symm]
      have hlm0 := (k2.trans k3).free hlm' om
      refine ⟨_, rfl, many, rfl, by omega, by omega, for_range (lo := 0) (n := (many : Int).toNat) (fun i σ H' => ∃ (sa ka : List Addr) (steps : List (List Int)) (marks : List (List Str)) (y6 y7 y8 : Option V),
        σ = [some (.ref a.p), some (.ref l), some (.int many), some (.int dense), some (.ref ls), some (.ref lm), y6, y7, y8, none, none] ∧ Pool H' a (c + 3 + i * 5) ∧ Kp a H H' ∧ H' ls = some (.lst (sa.map V.ref)) ∧ H' lm = some (.lst (ka.map V.ref)) ∧
        Each (fun a ns => SqT K H' a (ns.map V.int)) sa steps ∧ Each (fun a zs => SqT K H' a (zs.map V.str)) ka marks ∧ steps.length = i ∧ marks.length = i ∧ (∀ r ∈ steps, RiseI many r) ∧ (∀ r ∈ marks, RiseS r ∧ r.length ≤ 8))
        ⟨[], [], [], [], none, none, none, rfl, P4.upd om, ((k2.trans k3).mut hls0).mut hlm0, ?_, upd_same, .nil, .nil, rfl, rfl, fun _ h => absurd h List.not_mem_nil, fun _ h => absurd h List.not_mem_nil⟩ ?_ ?_⟩
      · rw [upd_ne nsm, upd_same]
        rfl
      · rintro i σ H5 hi ⟨sa, ka, steps, marks, y6, y7, y8, rfl, P5, k5, g1, g2, g3, g4, g5, g6, g7, g8⟩
        have hi' : i < 40 := by omega
        have lsa : sa.length = i := by rw [g3.len, g5]
        have lka : ka.length = i := by rw [g4.len, g6]
        have hl5 := k5 _ _ hl ol
        -- bits
        refine ⟨_, rfl, a, _, 1048576, rfl, P5, by omega, by decide, by decide, fun H6 b0 _ _ P6 k6 => ⟨_, rfl, a, _, 1048576, rfl, P6, by omega, by decide, by decide, fun H7 b1 _ _ P7 k7 => ⟨by show 2 ≤ sizeLine; decide, fun lb hlb => ?_⟩⟩⟩
        have k57 : Kp a H5 H7 := k6.trans k7
        have ob := P7.off hlb
        refine ⟨fun σ H' => ∃ (lb : Addr) (b0 b1 : Int), σ = [some (.ref a.p), some (.ref l), some (.int many), some (.int dense), some (.ref ls), some (.ref lm), some (.int i), some (.ref lb), y8, none, none] ∧ Pool H' a (c + 3 + i * 5 + 4) ∧ Kp a H5 H' ∧ H' lb = some (.lst [.int b0, .int b1]) ∧ Off a lb, ?_, ?_⟩
        · have hlb1 : upd H7 lb (.lst [.int b0, .int b1]) lb = some (.lst [.int b0, .int b1]) := upd_same
          refine ⟨_, rfl, _, _, rfl, rfl, _, rfl, ite2 (fun _ => ?_) (fun _ => ?_)⟩
          · refine ⟨_, rfl, lb, _, 0, .int b0, rfl, rfl, SqL.of hlb1, at_of (j := 0) rfl rfl, _, rfl, a, _, 1048576, rfl, P7.upd ob, by omega, by decide, by decide, fun H8 r8 _ _ P8 k8 => ⟨_, _, rfl, rfl, ?_⟩⟩
            have hlb2 := k8 _ _ hlb1 ob
            refine ⟨_, rfl, lb, _, 1, .int b1, rfl, rfl, SqL.of hlb2, at_of (j := 1) rfl rfl, _, rfl, a, _, 1048576, rfl, P8, by omega, by decide, by decide, fun H9 r9 _ _ P9 k9 => ⟨_, _, rfl, rfl, ?_⟩⟩
            refine ⟨by show 2 ≤ sizeLine; decide, fun lb' hlb' => ⟨lb', _, _, ?_, P9.upd (P9.off hlb'), ?_, upd_same, P9.off hlb'⟩⟩
            · rw [Int.zero_add]
              rfl
            · have e1 : Kp a H5 (upd H7 lb (.lst [.int b0, .int b1])) := k57.mut (k57.free hlb ob)
              have e2 := (e1.trans k8).trans k9
              exact e2.mut (e2.free hlb' (P9.off hlb'))
          · refine ⟨lb, b0, b1, ?_, (P7.upd ob).mono (by omega), k57.mut (k57.free hlb ob), hlb1, ob⟩
            rw [Int.zero_add]
            rfl
        · rintro σ H8 ⟨lb, b0, b1, rfl, P8, k8, hb, ob⟩
          have g1' := k8 _ _ g1 os
          have g2' := k8 _ _ g2 om
          have e58 := P5.imm k8
          have g3' := g3.imp fun _ _ h => e58.sq h
          have g4' := g4.imp fun _ _ h => e58.sq h
          -- steps.append(..)
          refine ⟨_, rfl, .inl ⟨rfl, _, SqL.of g1'⟩, _, rfl, many, rfl, by omega, by omega, fun D hD => lc_rangeS (fun i acc => ∃ ns : List Int, acc = ns.map V.int ∧ ns.Pairwise (· < ·) ∧ ∀ n ∈ ns, 0 ≤ n ∧ n < i) hD (by omega) ⟨[], rfl, List.Pairwise.nil, fun _ h => absurd h List.not_mem_nil⟩ (fun _ => rfl) ?_ ?_⟩
          · intro j H9 acc hj s9 ⟨ns, hns, pw, bd⟩ _ N1 N2 k1 k2
            have hb9 := s9 _ _ hb
            obtain ⟨v, hv⟩ : ∃ v : Int, atI [V.int b0, .int b1] ((0 + (j : Int)) / 20) = some (.int v) := by
              have : (0 + (j : Int)) / 20 = 0 ∨ (0 + (j : Int)) / 20 = 1 := by omega
              rcases this with h | h
              · exact ⟨b0, by rw [h]; rfl⟩
              · exact ⟨b1, by rw [h]; rfl⟩
            refine ⟨_, rfl, _, rfl, _, _, rfl, rfl, ⟨by decide, by decide⟩, lb, _, _, .int v, rfl, rfl, SqL.of hb9, hv, _, rfl, _, _, rfl, rfl, (by show (0 : Int) < _; decide), _, _, rfl, rfl, (by show (0 : Int) ≤ _ % 20; omega), _, _, rfl, rfl, rfl, _, rfl, ite2 (fun _ => ?_) (fun _ => ?_)⟩
            · refine ⟨_, rfl, k1 _ _ (Same.refl _) ⟨ns ++ [(j : Int)], ?_, ?_, ?_⟩⟩
              · rw [hns, List.map_append, Int.zero_add]
                rfl
              · refine List.pairwise_append.mpr ⟨pw, List.pairwise_singleton _ _, fun x hx y hy => ?_⟩
                have : y = j := by simpa using hy
                have := (bd x hx).2
                omega
              · intro n hn
                rcases List.mem_append.mp hn with hn | hn
                · have := bd n hn
                  omega
                · have : n = j := by simpa using hn
                  omega
            · refine k2 _ (Same.refl _) ⟨ns, hns, pw, fun n hn => ?_⟩
              have := bd n hn
              omega
          · intro H9 acc s9 hD9 _ ⟨ns, hns, pw, bd⟩
            subst hns
            refine ⟨D, _, rfl, .inl ⟨SqL.of hD9, fun t ht => ?_⟩⟩
            have s9' : Same H8 (upd H9 t (.tup (ns.map V.int))) := s9.trans (same_upd ht)
            refine ⟨ls, _, _, rfl, rfl, s9' _ _ g1', szLt (by rw [List.length_map]; omega), ?_⟩
            have tls : t ≠ ls := (ne_of_none (s9 _ _ g1') ht).symm
            have tlm : lm ≠ t := ne_of_none (s9 _ _ g2') ht
            have P9 : Pool (upd (upd H9 t (.tup (ns.map V.int))) ls (.lst (sa.map V.ref ++ [.ref t]))) a (c + 3 + i * 5 + 4) := (P8.same s9').upd os
            have k9 : Kp a H (upd (upd H9 t (.tup (ns.map V.int))) ls (.lst (sa.map V.ref ++ [.ref t]))) := ((k5.trans k8).trans (skp s9')).mut hls0
            have h1 : upd (upd H9 t (.tup (ns.map V.int))) ls (.lst (sa.map V.ref ++ [.ref t])) ls = some (.lst ((sa ++ [t]).map V.ref)) := by
              rw [upd_same, List.map_append]
              rfl
            have h2 : upd (upd H9 t (.tup (ns.map V.int))) ls (.lst (sa.map V.ref ++ [.ref t])) lm = some (.lst (ka.map V.ref)) := by
              rw [upd_ne nsm.symm]
              exact s9' _ _ g2'
            have e9 : Imm H8 (upd (upd H9 t (.tup (ns.map V.int))) ls (.lst (sa.map V.ref ++ [.ref t]))) := (simm s9').trans (Imm.list (s9' _ _ g1'))
            have h3 := (g3'.imp fun _ _ h => e9.sq h).snoc (a := t) (x := ns) (SqT.of (by rw [upd_ne tls, upd_same]))
            have h4 := g4'.imp fun _ _ h => e9.sq h
            have hl9 := k9 _ _ hl ol
            generalize upd (upd H9 t (.tup (ns.map V.int))) ls (.lst (sa.map V.ref ++ [.ref t])) = H10 at P9 k9 h1 h2 h3 h4 hl9 ⊢
            have h5 : ∀ r ∈ steps ++ [ns], RiseI many r := fun r hr => by
              rcases List.mem_append.mp hr with hr | hr
              · exact g7 r hr
              · have : r = ns := by simpa using hr
                rw [this]
                exact ⟨pw, fun n hn => by have := bd n hn; omega⟩
            -- worn
            refine ⟨_, rfl, a, _, 256, rfl, P9, by omega, by decide, by decide, fun H11 worn _ _ P11 k11 => ?_⟩
            have h1' := k11 _ _ h1 os
            have h2' := k11 _ _ h2 om
            have hl11 := k11 _ _ hl9 ol
            have e11 := P9.imm k11
            have h3' := h3.imp fun _ _ h => e11.sq h
            have h4' := h4.imp fun _ _ h => e11.sq h
            -- marks.append(tuple(sorted(..)))
            refine ⟨_, rfl, .inl ⟨rfl, _, SqL.of h2'⟩, _, rfl, l, _, rfl, .inl (SqL.of hl11), _, rfl, by omega, by rw [List.length_map]; omega, fun D2 hD2 => lc_rangeS (fun j acc => ∃ ss : List Str, acc = ss.map V.str ∧ ss.Sublist (zs.take j)) hD2 (by rw [List.length_map]; omega) ⟨[], rfl, List.nil_sublist _⟩ (fun _ => rfl) ?_ ?_⟩
            · intro j H12 acc hj s12 ⟨ss, hss, sub⟩ _ N1 N2 k1 k2
              have hl12 := s12 _ _ hl11
              have hj' : j < zs.length := by
                rw [Int.toNat_natCast, List.length_map] at hj
                exact hj
              have gz' : (zs.map V.str)[j]? = some (.str zs[j]) := get_map (List.getElem?_eq_getElem hj')
              have etk : zs.take (j + 1) = zs.take j ++ [zs[j]] := by
                rw [List.take_add_one, List.getElem?_eq_getElem hj']
                rfl
              refine ⟨_, rfl, _, rfl, _, _, rfl, rfl, (by show (0 : Int) ≤ 0 + (j : Int); omega), _, _, rfl, rfl, rfl, _, rfl, ite2 (fun _ => ?_) (fun _ => ?_)⟩
              · refine ⟨_, rfl, _, rfl, l, _, _, _, rfl, rfl, SqL.of hl12, at_of (Int.zero_add _) gz', k1 _ _ (Same.refl _) ⟨ss ++ [zs[j]], ?_, ?_⟩⟩
                · rw [hss, List.map_append]
                  rfl
                · rw [etk]
                  exact sub.append (List.Sublist.refl _)
              · refine k2 _ (Same.refl _) ⟨ss, hss, ?_⟩
                rw [etk]
                exact sub.trans (List.sublist_append_left _ _)
            · intro H12 acc s12 hD12 _ ⟨ss, hss, sub⟩
              subst hss
              have sub' : ss.Sublist zs := sub.trans (List.take_sublist _ _)
              have lss := sub'.length_le
              refine ⟨D2, ss, rfl, SqL.of hD12, by omega, fun ys p pm so hp => ?_⟩
              have lys := pm.length_eq
              have s13 : Same H12 (upd H12 p (.lst (ys.map V.str))) := same_upd hp
              refine ⟨p, _, rfl, .inl ⟨SqL.of upd_same, fun t2 ht2 => ?_⟩⟩
              have s14 := (s12.trans s13).trans (same_upd (o := .tup (ys.map V.str)) ht2)
              refine ⟨lm, _, _, rfl, rfl, s14 _ _ h2', szLt (by rw [List.length_map]; omega), ?_⟩
              have t2m : t2 ≠ lm := (ne_of_none ((s12.trans s13) _ _ h2') ht2).symm
              have e15 := (simm s14).trans (Imm.list (o := .lst (ka.map V.ref ++ [.ref t2])) (s14 _ _ h2'))
              have h4'' := (h4'.imp fun _ _ h => e15.sq h).snoc (a := t2) (x := ys) (SqT.of (by rw [upd_ne t2m, upd_same]))
              refine ⟨sa ++ [t], ka ++ [t2], steps ++ [ns], marks ++ [ys], some (.int i), some (.ref lb), some (.int worn), rfl, ?_, ?_, ?_, ?_, h3'.imp fun _ _ h => e15.sq h, h4'', ?_, ?_, h5, ?_⟩
              · rw [show c + 3 + (i + 1) * 5 = c + 3 + i * 5 + 4 + 1 by omega]
                exact (P11.same s14).upd om
              · exact ((k9.trans k11).trans (skp s14)).mut hlm0
              · rw [upd_ne nsm]
                exact s14 _ _ h1'
              · rw [upd_same, List.map_append]
                rfl
              · rw [List.length_append, g5]
                rfl
              · rw [List.length_append, g6]
                rfl
              · intro r hr
                rcases List.mem_append.mp hr with hr | hr
                · exact g8 r hr
                · have : r = ys := by simpa using hr
                  rw [this]
                  exact ⟨sorted_rise so (pm.nodup_iff.mpr (nz.sublist sub')) fun z hz => gz z (sub'.subset (pm.mem_iff.mp hz)), by omega⟩
      · rintro σ H5 ⟨sa, ka, steps, marks, y6, y7, y8, rfl, P5, k5, g1, g2, g3, g4, g5, g6, g7, g8⟩
        rw [Int.toNat_natCast] at P5 g5 g6
        refine ⟨_, rfl, ls, _, rfl, .inl ⟨SqL.of g1, fun s hs => ?_⟩⟩
        have s1 : Same H5 (upd H5 s (.tup (sa.map V.ref))) := same_upd hs
        refine ⟨_, rfl, lm, _, rfl, .inl ⟨SqL.of (s1 _ _ g2), fun k hk => ⟨by show 2 ≤ sizeLine; decide, fun m hm => ?_⟩⟩⟩
        have s2 := s1.trans (same_upd (o := .tup (ka.map V.ref)) hk)
        have s3 := s2.trans (same_upd (o := .tup [.ref s, .ref k]) hm)
        have nsk : s ≠ k := ne_of_none (show upd H5 s (.tup (sa.map V.ref)) s = _ from upd_same) hk
        have nsm' : s ≠ m := ne_of_none ((same_upd (o := .tup (ka.map V.ref)) hk) _ _ (show upd H5 s (.tup (sa.map V.ref)) s = _ from upd_same)) hm
        have nkm : k ≠ m := ne_of_none (show upd (upd H5 s (.tup (sa.map V.ref))) k (.tup (ka.map V.ref)) k = _ from upd_same) hm
        refine q _ m steps marks ((P5.same s3).mono (by omega)) (k5.trans (skp s3)) ⟨s, k, sa, ka, SqT.of upd_same, SqT.of ?_, SqT.of ?_, g3.imp fun _ _ h => (simm s3).sq h, g4.imp fun _ _ h => (simm s3).sq h⟩ ⟨by omega, by omega, by omega, ?_, g8⟩
        · rw [upd_ne nsm', upd_ne nsk, upd_same]
        · rw [upd_ne nkm, upd_same]
        · rw [g5]
          exact g7
end

/-! ### texts of machines -/
abbrev smachine_text : Stmt := topS 15
theorem scmachine_text : FnScope ["machine", "lines", "ahead", "names", "to"] ["machine"] (defScope smachine_text) := ⟨rfl, rfl, rfl, by decide +kernel, rfl, by decide +kernel, by decide +kernel⟩
abbrev s_law_line : Stmt := topS 26
theorem sc_law_line : FnScope ["_law_onto", "_law_names_here", "_law_to"] ["_law_onto", "_law_names_here"] (defScope s_law_line) := ⟨rfl, rfl, rfl, by decide +kernel, rfl, by decide +kernel, by decide +kernel⟩
abbrev s_law_machine_text : Stmt := topS 27
theorem sc_law_machine_text : FnScope ["_law_machine_here", "_law_k"] ["_law_machine_here"] (defScope s_law_machine_text) := ⟨rfl, rfl, rfl, by decide +kernel, rfl, by decide +kernel, by decide +kernel⟩
def gtS : Str := Str.ofString ">"
def spS : Str := Str.ofString " "
def nlS : Str := Str.ofString "\n"
def sI (n : Int) : Str := Str.ofString (toString n)
def lineW (ns : List Int) (zs : List Str) : List Str := zs ++ [gtS] ++ ns.map sI
def lineT (ns : List Int) (zs : List Str) : Str := Txt.join spS (lineW ns zs)
def linesT (steps : List (List Int)) (marks : List (List Str)) : List Str := (steps.zip marks).map fun p => lineT p.1 p.2
def machT (steps : List (List Int)) (marks : List (List Str)) : Str := Txt.join nlS (linesT steps marks)
theorem sI_len : ∀ n : Nat, n < 41 → (sI (n : Int)).length ≤ 8 := by decide +kernel
theorem sum8 : ∀ l : List Str, (∀ x ∈ l, x.length ≤ 8) → (l.map (·.length)).sum ≤ 8 * l.length
  | [], _ => Nat.zero_le _
  | x :: l, h => by
    have h1 := h x List.mem_cons_self
    have h2 := sum8 l fun y hy => h y (List.mem_cons_of_mem _ hy)
    rw [List.map_cons, List.sum_cons, List.length_cons]
    omega
theorem sumB (B : Nat) : ∀ l : List Str, (∀ x ∈ l, x.length ≤ B) → (l.map (·.length)).sum ≤ B * l.length
  | [], _ => Nat.zero_le _
  | x :: l, h => by
    have h1 := h x List.mem_cons_self
    have h2 := sumB B l fun y hy => h y (List.mem_cons_of_mem _ hy)
    rw [List.map_cons, List.sum_cons, List.length_cons, Nat.mul_succ]
    omega
theorem join_len (y : Str) (hy : y.length = 1) : ∀ l : List Str, (Txt.join y l).length ≤ (l.map (·.length)).sum + l.length := by
  intro l
  rw [show Txt.join y l = Str.join y l from StrLaws.glued_eq_join y l]
  induction l with
  | nil => exact Nat.zero_le _
  | cons x r ih =>
    cases r with
    | nil =>
      show x.length ≤ x.length + 0 + 1
      omega
    | cons z r =>
      show (x ++ y ++ Str.join y (z :: r)).length ≤ _
      rw [app_len, app_len, hy, List.map_cons, List.sum_cons, List.length_cons]
      omega
theorem line_short {ns : List Int} {zs : List Str} {k : Nat} (hs : RiseI k ns) (hk : k ≤ 41) (hz : ∀ z ∈ zs, GoodName z) : ∀ x ∈ lineW ns zs, x.length ≤ 8 := by
  intro x hx
  rcases List.mem_append.mp hx with hx | hx
  · rcases List.mem_append.mp hx with hx | hx
    · exact (hz x hx).hi
    · rw [List.mem_singleton.mp hx]
      decide
  · obtain ⟨n, hn, rfl⟩ := List.mem_map.mp hx
    have := hs.2 n hn
    obtain ⟨m, rfl⟩ : ∃ m : Nat, n = (m : Int) := ⟨n.toNat, by omega⟩
    exact sI_len m (by omega)
theorem line_len {ns : List Int} {zs : List Str} : (lineW ns zs).length = zs.length + 1 + ns.length := by
  unfold lineW
  rw [List.length_append, List.length_append, List.length_map]
  rfl
theorem lineT_len {ns : List Int} {zs : List Str} {k : Nat} (hs : RiseI k ns) (hk : k ≤ 41) (hz : ∀ z ∈ zs, GoodName z) (hl : zs.length ≤ 8) : (lineT ns zs).length ≤ 500 := by
  have a := join_len spS (by decide) (lineW ns zs)
  have b := sum8 _ (line_short hs hk hz)
  have c := rise_len hs (by omega)
  rw [line_len] at a b
  show (Txt.join spS (lineW ns zs)).length ≤ 500
  omega
section
variable {P : Program} {w : World} {K : PySem.W.Frag} {mg : Str → Option Value} {base : Heap}
def spMT (K : PySem.W.Frag) : Sp := fun vs H Q _ => ∃ (m : Addr) (steps : List (List Int)) (marks : List (List Str)), vs = [.ref m] ∧ MachAt K H m steps marks ∧ GoodMach steps marks ∧ ∀ H', Same H H' → Q (.str (machT steps marks)) H'
theorem lines_at {steps : List (List Int)} {marks : List (List Str)} {i : Nat} {ns : List Int} {zs : List Str} (h1 : steps[i]? = some ns) (h2 : marks[i]? = some zs) : (linesT steps marks)[i]? = some (lineT ns zs) := by
  unfold linesT
  rw [List.getElem?_map, (List.getElem?_zip_eq_some (z := (ns, zs))).mpr ⟨h1, h2⟩]
  rfl
theorem lines_len {steps : List (List Int)} {marks : List (List Str)} (h : steps.length = marks.length) : (linesT steps marks).length = steps.length := by
  unfold linesT
  rw [List.length_map, List.length_zip]
  omega
theorem lines_short {steps : List (List Int)} {marks : List (List Str)} (G : GoodMach steps marks) : ∀ x ∈ linesT steps marks, x.length ≤ 500 := by
  intro x hx
  unfold linesT at hx
  obtain ⟨⟨ns, zs⟩, hp, rfl⟩ := List.mem_map.mp hx
  obtain ⟨a, b⟩ := List.of_mem_zip hp
  have hi := G.hi
  exact lineT_len (G.st _ a) (by omega) (G.mr _ b).1.2 (G.mr _ b).2
theorem ok_mt {f : Addr} {fd : FuncData} (F : Fun K "machine_text" "machine_text" smachine_text f fd) (T : Bi mg) : FnOk P w K mg base CX0 1 f fd ["machine"] (spMT K) := by
  refine F.ok scmachine_text (fun vs H Q E h => ?_) (fun cdv A outer s H vs Q E hr h => ?_)
  · obtain ⟨m, steps, marks, rfl, _⟩ := h
    rfl
  · obtain ⟨m, steps, marks, rfl, M, G, q⟩ := h
    obtain ⟨s, k, sa, ka, h1, h2, h3, h4, h5⟩ := M.ex
    have l1 := h4.len
    have l2 := h5.len
    have g1 := G.len
    have g3 := G.hi
    refine ⟨_, (pss_cons (ps_set (i := 1) scmachine_text.nd rfl (.inl rfl) (pe_lst pa_nil))
      (pss_cons (ps_for PassesOwn.never rfl (RZ.pi_zipA (by rfl) T.zip (pa_cons (pe_ix ix_tup (pv 0) pe_int (fun _ _ => rfl)) (pa_cons (pe_ix ix_tup (pv 0) pe_int (fun _ _ => rfl)) pa_nil))) (pg_tup rfl (pgs_cons (pg_name (i := 2) scmachine_text.nd rfl (.inl rfl)) (pgs_cons (pg_name (i := 3) scmachine_text.nd rfl (.inl rfl)) pgs_nil)))
        (pss_one (ps_expr (pe_bm PySem.F.plainAttrs_list PySem.F.slot_list_append PySem.F.type_list_append mt_append (pv 1) (pa_cons (pe_join pe_str (pe_op op_cat (pe_op op_cat (pe_callTy call_list_of (by rfl) T.list (by decide +kernel) (pa_cons (pv 3) pa_nil)) (pe_lst (pa_cons pe_str pa_nil))) (pe_lc (own := [("to", 4)]) (g := gName 4) rfl scmachine_text.nd (pi_tup (pv 2)) (blkOk_by (own := [("to", 4)]) (N := ["machine", "lines", "ahead", "names", "to"]) (sc := defScope smachine_text) (by decide +kernel)) (fun _ _ _ _ _ => (pg_name (i := 4) scmachine_text.nd rfl (.inl rfl))) (fun _ _ _ _ _ => pts_nil) (fun _ _ _ _ _ => (pe_callTy call_str_int (by rfl) T.str (by decide +kernel) (pa_cons (pv 4) pa_nil)))))) pa_nil)))))
      (pss_one (ps_ret (pe_join pe_str (pv 1)))))), ?_⟩
    refine ⟨Nat.zero_le _, fun L hL => ?_⟩
    have sL := same_upd (o := .lst []) hL
    refine ⟨_, rfl, m, _, 0, .ref s, rfl, rfl, ssqt sL h1, at_of (j := 0) rfl rfl, _, rfl, m, _, 1, .ref k, rfl, rfl, ssqt sL h1, at_of (j := 1) rfl rfl, s, k, _, _, rfl, .inr ⟨ssqt sL h2, ssqt sL h3, RZ.for_zipT (K := K) (a := s) (b := k) (xs := sa.map V.ref) (ys := ka.map V.ref) (by rw [List.length_map, List.length_map]; omega)
      (fun i σ H' => ∃ y2 y3, σ = [some (.ref m), some (.ref L), y2, y3, none] ∧ Same H H' ∧ H' L = some (.lst (((linesT steps marks).take i).map V.str))) ⟨none, none, rfl, sL, upd_same⟩ (fun i σ H' ⟨_, _, _, e, _⟩ => ⟨ssqt e h2, ssqt e h3⟩) ?_ ?_⟩⟩
    · rintro i x y T2 σ H1 hx hy ⟨y2, y3, rfl, s1, hl1⟩ hT
      obtain ⟨a, ha, rfl⟩ := ref_get hx
      obtain ⟨b, hb, rfl⟩ := ref_get hy
      obtain ⟨ns, hn1, hn2⟩ := h4.get ha
      obtain ⟨zs, hz1, hz2⟩ := h5.get hb
      have gs := G.st ns (List.mem_of_getElem? hn1)
      have gm := G.mr zs (List.mem_of_getElem? hz1)
      have ln := rise_len gs (by omega)
      have sT := same_upd (o := .tup [.ref a, .ref b]) hT
      have s2 := s1.trans sT
      have il : i < steps.length := (List.getElem?_eq_some_iff.mp hn1).1
      refine ⟨T2, _, rfl, SqT.of upd_same, rfl, _, _, rfl, _, _, rfl, rfl, ?_⟩
      refine ⟨_, rfl, .inl ⟨rfl, _, SqL.of (sT _ _ hl1)⟩, ⟨_, rfl⟩, _, rfl, b, _, rfl, .inr (ssqt s2 hz2), fun p1 hp1 => ⟨by show 1 ≤ sizeLine; decide, fun p2 hp2 => ?_⟩⟩
      have u1 := same_upd (o := .lst (zs.map V.str)) hp1
      have u2 := same_upd (o := .lst [.str gtS]) hp2
      refine ⟨p1, p2, _, _, rfl, rfl, u2 _ _ upd_same, upd_same, szOk (by rw [List.length_map]; show _ + 1 ≤ _; have := gm.2; omega), fun p3 hp3 => ?_⟩
      have u3 := same_upd (o := .lst (zs.map V.str ++ [.str gtS])) hp3
      have u13 := (u1.trans u2).trans u3
      have v3 : (L2.upd (L2.upd (L2.upd (L2.upd H1 T2 (.tup [.ref a, .ref b])) p1 (.lst (zs.map V.str))) p2 (.lst [.str gtS])) p3 (.lst (zs.map V.str ++ [.str gtS]))) p3 = some (.lst (zs.map V.str ++ [.str gtS])) := upd_same
      have hn3 := ssqt (s2.trans u13) hn2
      refine ⟨_, rfl, a, rfl, ⟨_, hn3⟩, fun D hD => ?_⟩
      refine lc_tupS (fun j acc => acc = ((ns.take j).map sI).map V.str) hn3 hD (by rw [List.length_map]; omega) rfl (fun _ => rfl) (fun j x H4 acc hj s4 p5 p4 N1 N2 n1 n2 => ?_) (fun H4 acc s4 hD4 hl p5 => ?_)
      · obtain ⟨n, hn, rfl⟩ := map_get hj
        have := gs.2 n (List.mem_of_getElem? hn)
        refine ⟨_, rfl, n, rfl, Nat.lt_of_le_of_lt (Nat.log2_le_self _) (by omega), n1 _ H4 (Same.refl _) ?_⟩
        rw [p5, List.take_add_one, hn, List.map_append, List.map_append]
        rfl
      · rw [List.length_map, List.take_length] at p5
        subst p5
        refine ⟨p3, D, _, _, rfl, rfl, s4 _ _ v3, hD4, szOk (by rw [List.length_append, List.length_map, List.length_map, List.length_map]; show _ + 1 + _ ≤ _; have := gm.2; omega), fun p4 hp4 => ?_⟩
        have u4 := same_upd (o := .lst (zs.map V.str ++ [.str gtS] ++ (ns.map sI).map V.str)) hp4
        have u := (u13.trans s4).trans u4
        have hl4 := u _ _ (sT _ _ hl1)
        refine ⟨_, p4, lineW ns zs, rfl, rfl, .inl (SqL.of ?_), ?_, ?_⟩
        · rw [upd_same]
          unfold lineW
          rw [List.map_append, List.map_append]
          rfl
        · have e := sum8 _ (line_short (ns := ns) (zs := zs) gs (by omega) gm.1.2)
          have e1 : (Str.ofString " ").length = 1 := by decide
          have e2 := line_len (ns := ns) (zs := zs)
          have := gm.2
          rw [e1]
          omega
        · refine ⟨L, _, _, rfl, rfl, hl4, szLt (by rw [List.length_map, List.length_take]; omega), ?_⟩
          refine ⟨_, _, rfl, smut (s2.trans u) hL, ?_⟩
          rw [upd_same, List.take_add_one, lines_at hn1 hz1, List.map_append]
          rfl
    · rintro σ H1 ⟨y2, y3, rfl, s1, hl1⟩
      rw [List.length_map, l1, ← lines_len g1, List.take_length] at hl1
      refine ⟨⟨_, rfl⟩, _, rfl, _, L, linesT steps marks, rfl, rfl, .inl (SqL.of hl1), ?_, q H1 s1⟩
      have e := sumB 500 _ (lines_short G)
      have e1 : (Str.ofString "\n").length = 1 := by decide
      have e2 := lines_len g1
      rw [e1]
      omega
end

section
variable {P : Program} {w : World} {K : PySem.W.Frag} {mg : Str → Option Value} {base : Heap}
def spLL (K : PySem.W.Frag) : Sp := fun vs H Q _ => ∃ (a b : Addr) (ns : List Int) (zs : List Str) (k : Nat), vs = [.ref a, .ref b] ∧ SqT K H a (ns.map V.int) ∧ SqT K H b (zs.map V.str) ∧ RiseI k ns ∧ k ≤ 41 ∧ (∀ z ∈ zs, GoodName z) ∧ zs.length ≤ 8 ∧ ∀ H', Same H H' → Q (.str (lineT ns zs)) H'
theorem ok_ll {f : Addr} {fd : FuncData} (F : Fun K "_law_line" "_law_line" s_law_line f fd) (T : Bi mg) : FnOk P w K mg base CX0 1 f fd ["_law_onto", "_law_names_here"] (spLL K) := by
  refine F.ok sc_law_line (fun vs H Q E h => ?_) (fun cdv A outer s H vs Q E hr h => ?_)
  · obtain ⟨a, b, ns, zs, k, rfl, _⟩ := h
    rfl
  · obtain ⟨a, b, ns, zs, k, rfl, hn2, hz2, gs, hk, gz, lz, q⟩ := h
    have ln := rise_len gs (by omega)
    refine ⟨_, (pss_one (ps_ret (pe_join pe_str (pe_op op_cat (pe_op op_cat (pe_callTy call_list_of (by rfl) T.list (by decide +kernel) (pa_cons (pv 1) pa_nil)) (pe_lst (pa_cons pe_str pa_nil))) (pe_lc (own := [("_law_to", 2)]) (g := gName 2) rfl sc_law_line.nd (pi_tup (pv 0)) (blkOk_by (own := [("_law_to", 2)]) (N := ["_law_onto", "_law_names_here", "_law_to"]) (sc := defScope s_law_line) (by decide +kernel)) (fun _ _ _ _ _ => (pg_name (i := 2) sc_law_line.nd rfl (.inl rfl))) (fun _ _ _ _ _ => pts_nil) (fun _ _ _ _ _ => (pe_callTy call_str_int (by rfl) T.str (by decide +kernel) (pa_cons (pv 2) pa_nil)))))))), ?_⟩
    refine ⟨⟨_, rfl⟩, _, rfl, b, _, rfl, .inr hz2, fun p1 hp1 => ⟨by show 1 ≤ sizeLine; decide, fun p2 hp2 => ?_⟩⟩
    have u1 := same_upd (o := .lst (zs.map V.str)) hp1
    have u2 := same_upd (o := .lst [.str gtS]) hp2
    refine ⟨p1, p2, _, _, rfl, rfl, u2 _ _ upd_same, upd_same, szOk (by rw [List.length_map]; show _ + 1 ≤ _; omega), fun p3 hp3 => ?_⟩
    have u3 := same_upd (o := .lst (zs.map V.str ++ [.str gtS])) hp3
    have u13 := (u1.trans u2).trans u3
    have v3 : (L2.upd (L2.upd (L2.upd H p1 (.lst (zs.map V.str))) p2 (.lst [.str gtS])) p3 (.lst (zs.map V.str ++ [.str gtS]))) p3 = some (.lst (zs.map V.str ++ [.str gtS])) := upd_same
    have hn3 := ssqt u13 hn2
    refine ⟨_, rfl, a, rfl, ⟨_, hn3⟩, fun D hD => ?_⟩
    refine lc_tupS (fun j acc => acc = ((ns.take j).map sI).map V.str) hn3 hD (by rw [List.length_map]; omega) rfl (fun _ => rfl) (fun j x H4 acc hj s4 p5 p4 N1 N2 n1 n2 => ?_) (fun H4 acc s4 hD4 hl p5 => ?_)
    · obtain ⟨n, hn, rfl⟩ := map_get hj
      have := gs.2 n (List.mem_of_getElem? hn)
      refine ⟨_, rfl, n, rfl, Nat.lt_of_le_of_lt (Nat.log2_le_self _) (by omega), n1 _ H4 (Same.refl _) ?_⟩
      rw [p5, List.take_add_one, hn, List.map_append, List.map_append]
      rfl
    · rw [List.length_map, List.take_length] at p5
      subst p5
      refine ⟨p3, D, _, _, rfl, rfl, s4 _ _ v3, hD4, szOk (by rw [List.length_append, List.length_map, List.length_map, List.length_map]; show _ + 1 + _ ≤ _; omega), fun p4 hp4 => ?_⟩
      have u4 := same_upd (o := .lst (zs.map V.str ++ [.str gtS] ++ (ns.map sI).map V.str)) hp4
      refine ⟨_, p4, lineW ns zs, rfl, rfl, .inl (SqL.of ?_), ?_, q _ ((u13.trans s4).trans u4)⟩
      · rw [upd_same]
        unfold lineW
        rw [List.map_append, List.map_append]
        rfl
      · have e := sum8 _ (line_short (ns := ns) (zs := zs) gs hk gz)
        have e1 : (Str.ofString " ").length = 1 := by decide
        have e2 := line_len (ns := ns) (zs := zs)
        rw [e1]
        omega
theorem ok_lmt {f : Addr} {fd : FuncData} (F : Fun K "_law_machine_text" "_law_machine_text" s_law_machine_text f fd) (T : Bi mg) (c_law_line : Cal P w K mg base 1 "_law_line" ["_law_onto", "_law_names_here"] (spLL K)) : FnOk P w K mg base CX0 2 f fd ["_law_machine_here"] (spMT K) := by
  refine F.ok sc_law_machine_text (fun vs H Q E h => ?_) (fun cdv A outer s H vs Q E hr h => ?_)
  · obtain ⟨m, steps, marks, rfl, _⟩ := h
    rfl
  · obtain ⟨m, steps, marks, rfl, M, G, q⟩ := h
    obtain ⟨s, k, sa, ka, h1, h2, h3, h4, h5⟩ := M.ex
    have l1 := h4.len
    have l2 := h5.len
    have g1 := G.len
    have g3 := G.hi
    refine ⟨_, (pss_one (ps_ret (pe_join pe_str (pe_lc (own := [("_law_k", 1)]) (g := gName 1) rfl sc_law_machine_text.nd (pi_range1 (by rfl) T.range (pa_cons (pe_callB call_len_seq (by rfl) T.len PySem.boot_len (pa_cons (pe_ix ix_tup (pv 0) pe_int (fun _ _ => rfl)) pa_nil)) pa_nil)) (blkOk_by (own := [("_law_k", 1)]) (N := ["_law_machine_here", "_law_k"]) (sc := defScope s_law_machine_text) (by decide +kernel)) (fun _ _ _ _ _ => (pg_name (i := 1) sc_law_machine_text.nd rfl (.inl rfl))) (fun _ _ _ _ _ => pts_nil) (fun _ _ _ _ _ => (pe_call c_law_line.G hr (by rfl) c_law_line.g c_law_line.kp c_law_line.b .nil pass0 (pa_cons (pe_ix (ixT K) (pe_ix (ixT K) (pv 0) pe_int (fun _ _ => rfl)) (pv 1) (fun _ _ => rfl)) (pa_cons (pe_ix (ixT K) (pe_ix (ixT K) (pv 0) pe_int (fun _ _ => rfl)) (pv 1) (fun _ _ => rfl)) pa_nil)))))))), ?_⟩
    refine ⟨⟨_, rfl⟩, _, rfl, m, _, 0, .ref s, rfl, rfl, h1, at_of (j := 0) rfl rfl, s, _, rfl, .inr h2, _, rfl, by omega, by rw [List.length_map]; omega, fun D hD => ?_⟩
    refine lc_rangeS (fun i acc => acc = ((linesT steps marks).take i).map V.str) hD (by rw [List.length_map]; omega) rfl (fun _ => rfl) (fun i H4 acc hi s4 p5 _ N1 N2 n1 n2 => ?_) (fun H4 acc s4 hD4 _ p5 => ?_)
    · have hi : i < steps.length := by
        have : i < (((sa.map V.ref).length : Nat) : Int).toNat := hi
        rw [List.length_map] at this
        omega
      have hn1 : steps[i]? = some steps[i] := List.getElem?_eq_getElem hi
      have hz1 : marks[i]? = some (marks[i]'(by omega)) := List.getElem?_eq_getElem (by omega)
      generalize steps[i] = ns at hn1
      generalize marks[i]'(by omega) = zs at hz1
      obtain ⟨a, ha, hn2⟩ := h4.getx hn1
      obtain ⟨b, hb, hz2⟩ := h5.getx hz1
      have gs := G.st ns (List.mem_of_getElem? hn1)
      have gm := G.mr zs (List.mem_of_getElem? hz1)
      refine ⟨_, rfl, m, _, 0, .ref s, rfl, rfl, ssqt s4 h1, at_of (j := 0) rfl rfl, _, rfl, s, _, _, .ref a, rfl, rfl, ssqt s4 h2, by rw [Int.zero_add]; exact atI_nat (get_map ha), _, rfl, m, _, 1, .ref k, rfl, rfl, ssqt s4 h1, at_of (j := 1) rfl rfl, _, rfl, k, _, _, .ref b, rfl, rfl, ssqt s4 h3, by rw [Int.zero_add]; exact atI_nat (get_map hb), a, b, ns, zs, steps.length, rfl, ssqt s4 hn2, ssqt s4 hz2, gs, by omega, gm.1.2, gm.2, fun H5 s5 => ?_⟩
      refine n1 _ H5 s5 ?_
      rw [p5, List.take_add_one, lines_at hn1 hz1, List.map_append]
      rfl
    · have e0 : (((sa.map V.ref).length : Nat) : Int).toNat = (linesT steps marks).length := by
        rw [List.length_map, l1, lines_len g1]
        rfl
      rw [e0, List.take_length] at p5
      subst p5
      refine ⟨_, D, linesT steps marks, rfl, rfl, .inl (SqL.of hD4), ?_, q H4 s4⟩
      have e := sumB 500 _ (lines_short G)
      have e1 : (Str.ofString "\n").length = 1 := by decide
      have e2 := lines_len g1
      rw [e1]
      omega
end

/-! ### own errors -/
structure XCls (K : PySem.W.Frag) (mg : Str → Option Value) (nm : Str) (C : Addr) : Prop where
  g : mg nm = some (.ref C)
  k : PySem.W.keepIn K (.ref C) = true
  b : PySem.W.subIn K (.ref C) (.type "BaseException") = some true
  t : PySem.W.typeIn K (.ref C) = some (.type "type")
  h : PySem.W.hasDictIn K C = true
theorem XCls.r {K : PySem.W.Frag} {mg : Str → Option Value} {nm : Str} {C : Addr} (_ : XCls K mg nm C) : RelV (.ref C) (.ref C) := rfl
/-- the error that is raised -/
structure XRai (K : PySem.W.Frag) (C : Addr) : Prop where
  x : PySem.W.excIn K C [.type "ValueError", .type "Exception", .type "BaseException", .type "object"] "ValueError.__new__" = true
  E : ExcC K C
  s : PySem.W.subIn K (.ref C) (.ref C) = some true
  v : PySem.W.subIn K (.ref C) (.type "ValueError") = some true
theorem XCls.exm {K : PySem.W.Frag} {mg : Str → Option Value} {nm : Str} {C D : Addr} {b : Bool} (c : XCls K mg nm C) (h : PySem.W.subIn K (.ref D) (.ref C) = some b) : PySem.W.exmOne K (.ref D) (.ref C) = some b :=
  PySem.W.exm_ref c.b c.h c.t h
theorem XCls.kit {K : PySem.W.Frag} {mg : Str → Option Value} {nm : Str} {C D : Addr} {b : Bool} (c : XCls K mg nm C) (r : XRai K D) (h : PySem.W.subIn K (.ref D) (.ref C) = some b) : PySem.W.kitOne K (.ref D) (.ref C) = some b := by
  have e := c.exm h
  unfold PySem.W.exmOne at e
  rw [if_pos (by rw [c.b] <;> rfl)] at e
  unfold PySem.W.kitOne
  by_cases q : (Value.ref D == Value.ref C) = true
  · rw [if_pos q]
    have q' : D = C := Value.ref.inj (eq_of_beq q)
    rw [q'] at h r
    rw [r.s] at h
    exact h
  · rw [if_neg q]
    exact e
theorem XRai.kit {K : PySem.W.Frag} {D : Addr} (r : XRai K D) : PySem.W.kitOne K (.ref D) (.type "ValueError") = some true := by
  unfold PySem.W.kitOne PySem.W.kitCls
  rw [if_neg (by intro q; exact absurd (eq_of_beq q) (by intro z; cases z))]
  change (if PySem.W.kitMeta "ValueError" = true then _ else _) = _
  rw [if_pos (by decide +kernel)]
  exact r.v
theorem zc_of {cls : Value} {d : Option Addr} {D : Addr} {oe : Obj} (hz : Zc cls d oe) (hp : cls = .ref D ∧ d = none) : Zc (.ref D) none oe := by
  obtain ⟨rfl, rfl⟩ := hp
  exact hz
theorem pss_when {X : Cx} {sts : List Stmt} {p : Prop} {t : TS} (h : p → PSs X sts t) : PSs X sts (fun D σ H => p ∧ t D σ H) := ⟨fun pins s σ H D I q => (h q.1).run pins s σ H D I q.2⟩
/-- a def that may raise, as callers see it -/
structure CalX (P : Program) (w : World) (K : PySem.W.Frag) (mg : Str → Option Value) (base : Heap) (k : Nat) (x : Str) (ps : List Str) (sp : Sp) where
  f : Addr
  fd : FuncData
  G : FnOk P w K mg base (L2.CX P w) k f fd ps sp
  g : mg x = some (.ref f)
  kp : PySem.W.keepIn K (.ref f) = true
  b : Binds K fd ps []
/-- the raised error, the base of all, two others -/
structure XSet (K : PySem.W.Frag) (mg : Str → Option Value) (nR nA nB : Str) where
  R : Addr
  T : Addr
  A : Addr
  B : Addr
  xR : XCls K mg nR R
  xT : XCls K mg "TreeError" T
  xA : XCls K mg nA A
  xB : XCls K mg nB B
  r : XRai K R
  sT : PySem.W.subIn K (.ref R) (.ref T) = some true
  sA : PySem.W.subIn K (.ref R) (.ref A) = some false
  sB : PySem.W.subIn K (.ref R) (.ref B) = some false

structure XOne (K : PySem.W.Frag) (mg : Str → Option Value) (nR : Str) where
  R : Addr
  xR : XCls K mg nR R
  r : XRai K R

/-! ### name = {k: v for ..}, the name a local -/
namespace SDC
open PySem PySem.Spec PyProof.Rows L2
variable {X : Cx}
theorem ps_setDc {i : Nat} {y : Str} {py : Pos} {kx vx tg iter : Expr} {ifs : List Expr} {scope : Scope} {own : List (Str × Nat)} {pos spos : Pos} {wi : TI} {g : TG} {tt : TT} {tk tv : TE} (hc : X.calm = true) (hN : X.N.Nodup) (hy : X.N[i]? = some y) (hyl : X.env.scope.names.lookup y = some .local)
    (hsw : swapsWith (.DictComp kx vx [⟨tg, iter, ifs, 0⟩] scope pos) (some (.Name y py)) spos.line X.env = pure true) (hi : PI X tg iter wi) (ok : BlkOk X.N X.env.scope scope own)
    (hg : ∀ (s : Shared) (H : Hp) (C : Addr) (cl : List (Str × Addr)) (fp : List Addr), PG (X.blk s H scope (compEnvC scope cl C X.env) fp) tg g) (ht : ∀ (s : Shared) (H : Hp) (C : Addr) (cl : List (Str × Addr)) (fp : List Addr), PTs (X.blk s H scope (compEnvC scope cl C X.env) fp) ifs tt)
    (hk : ∀ (s : Shared) (H : Hp) (C : Addr) (cl : List (Str × Addr)) (fp : List Addr), PE (X.blk s H scope (compEnvC scope cl C X.env) fp) kx tk)
    (he : ∀ (s : Shared) (H : Hp) (C : Addr) (cl : List (Str × Addr)) (fp : List Addr), PE (X.blk s H scope (compEnvC scope cl C X.env) fp) vx tv) (hs : ∀ x, foldedSetIterable iter X.env x = pure x := by intro _; rfl) :
    PS X (.Assign [.Name y py] (.DictComp kx vx [⟨tg, iter, ifs, 0⟩] scope pos) spos) (tAsg (tDc wi g tt tk tv (own.map (·.2))) (gName i)) := by
  refine ⟨fun pins s σ H D I h => ?_⟩
  rw [exec_Assign_Name_used _ _ _ _ hsw]
  refine wpAny_bind (wpAny_standAt (wpAny_bind ?_))
  show wpAny _ X.A (do let _ ← comprehension (.DictComp kx vx [⟨tg, iter, ifs, 0⟩] scope pos) scope X.env (firstIterPos [⟨tg, iter, ifs, 0⟩] pos) newDict false (eval iter X.env) (some (assign (.Name y py) X.env))) _ _ s
  have h : tDc wi g tt tk tv (own.map (·.2)) σ H (fun x H1 => gName i x σ H1 D.nx) := h
  refine wpAny_bind (L2.thn (dc_core (Qf := fun _ s' => SP X pins D .next s') hc hN I hi ok hg ht hk he hs h fun L C s' m H' I' q hn f => ?_) fun _ s' hq => wpAny_pure (wpAny_pure hq))
  show wpAny _ _ (assign (.Name y py) X.env (.ref L)) _ _ _
  refine wpAny_assign_Name (store_ok2 (v := V.ref L) I' hN hy (.inl hyl) rfl (fun s2 I2 ⟨a, sb, ha⟩ => ?_) (.inr hyl))
  obtain ⟨f0, f1, f2, f3, f4, f5⟩ := f
  have haC : C ≠ a := by
    rcases ha with z | z
    · rw [z]; exact f1
    · exact fun e => f4 y a z e.symm
  refine ⟨m, hn.sameBut sb haC, fun h3 sb3 => ?_⟩
  exact ⟨_, H', I2.turned (t' := s2.toks) (fun b o hb e => (sb3.2 b hb).trans e) f0 f1 f3 f4 f5, q⟩
theorem sw_true {kx vx : Expr} {gs : List Comprehension} {scope : Scope} {pos py : Pos} {y : Str} {l : Nat} {env : Env} (hk : env.scope.kind = .function) (hy : env.scope.names.lookup y = some .local) (hl : (py.line == pos.line) = true)
    (ha : (scope.names.any fun (n, k) => n == y && (k == .local || k == .cell)) = false) : swapsWith (.DictComp kx vx gs scope pos) (some (.Name y py)) l env = pure true := by
  have ky : env.kindOf y = some .local := hy
  have hb : env.blockKind = .function := by unfold Env.blockKind; rw [hk]; rfl
  unfold swapsWith
  simp only [hb, ky, ha, Expr.pos, hl]
  rfl
end SDC

/-! ### reading texts of machines -/
abbrev sread_line : Stmt := topS 16
theorem scread_line : FnScope ["line", "places", "names", "words", "ahead", "word"] ["line", "places"] (defScope sread_line) := ⟨rfl, rfl, rfl, by decide +kernel, rfl, by decide +kernel, by decide +kernel⟩
abbrev sread_machine : Stmt := topS 17
theorem scread_machine : FnScope ["text", "lines", "places", "steps", "marks", "line", "ahead", "names", "one"] ["text"] (defScope sread_machine) := ⟨rfl, rfl, rfl, by decide +kernel, rfl, by decide +kernel, by decide +kernel⟩
def plK (n : Nat) : List (L2.Key × V) := (List.range n).map fun i => (.inr (sI (i : Nat)), .int (i : Nat))
theorem sI_inj : ∀ a < 41, ∀ b < 41, sI ((a : Nat) : Int) = sI ((b : Nat) : Int) → a = b := by decide +kernel
theorem sI_gt : ∀ a < 41, sI ((a : Nat) : Int) ≠ gtS := by decide +kernel
theorem sI_free : ∀ a < 41, 32 ∉ (sI ((a : Nat) : Int)).cps.toList ∧ 10 ∉ (sI ((a : Nat) : Int)).cps.toList := by decide +kernel
theorem pl_succ (n : Nat) : plK (n + 1) = plK n ++ [(.inr (sI (n : Nat)), .int (n : Nat))] := by
  unfold plK
  rw [List.range_succ, List.map_append]
  rfl
theorem pl_key {n : Nat} {a : Nat} (ha : n ≤ a) (h : a < 41) : ∀ kv ∈ plK n, kv.1 ≠ .inr (sI (a : Nat)) := by
  intro kv hkv e
  unfold plK at hkv
  obtain ⟨i, hi, rfl⟩ := List.mem_map.mp hkv
  have hi := List.mem_range.mp hi
  have := sI_inj i (by omega) a h (Sum.inr.inj e)
  omega
theorem pl_put {n : Nat} (h : n < 41) : putK (plK n) (.inr (sI (n : Nat))) (.int (n : Nat)) = plK (n + 1) := by
  unfold putK
  rw [if_neg, pl_succ]
  intro e
  obtain ⟨kv, hkv, e⟩ := List.any_eq_true.mp e
  exact pl_key (Nat.le_refl n) h kv hkv (of_decide_eq_true e)
theorem pl_val : ∀ n a : Nat, a < n → n ≤ 41 → valV (plK n) (.inr (sI (a : Nat))) = some (.int (a : Nat))
  | 0, _, h, _ => absurd h (Nat.not_lt_zero _)
  | n + 1, a, h, hn => by
    rw [pl_succ]
    unfold valV
    rw [List.find?_append]
    by_cases ha : a < n
    · have ih := pl_val n a ha (by omega)
      unfold valV at ih
      cases e : (plK n).find? (fun kv => decide (kv.1 = .inr (sI (a : Nat)))) with
      | none =>
        rw [e] at ih
        cases ih
      | some x =>
        rw [e] at ih
        exact ih
    · obtain rfl : a = n := by omega
      have e : (plK a).find? (fun kv => decide (kv.1 = .inr (sI (a : Nat)))) = none := List.find?_eq_none.mpr fun kv hkv => by
        have := pl_key (Nat.le_refl a) (by omega) kv hkv
        simpa using this
      rw [e]
      simp
theorem pl_len (n : Nat) : (plK n).length = n := by
  unfold plK
  rw [List.length_map, List.length_range]
theorem cut_from {xs : List V} {k : Nat} (h : k ≤ xs.length) : cutV xs (some (k : Int)) none = xs.drop k := by
  unfold cutV
  rw [show HT.sIx xs.length 0 (some (k : Int)) = min k xs.length from HT.sIx_nat xs.length 0 k, HT.sIx_none, Nat.min_eq_left h]
  rw [← List.length_drop, List.take_length]
section
variable {P : Program} {w : World} {K : PySem.W.Frag} {mg : Str → Option Value} {base : Heap}
theorem dc_range {lo : Int} {n : Nat} {g : TG} {tt : TT} {tk tv : TE} {vs : List Nat} {σ : L2.St} {H1 : Hp} {D : Addr} {Qd : Hp → Prop} (Pv : Nat → Hp → Prop) (h0 : Pv 0 (upd H1 D (.dK [])))
    (hs : ∀ i H, i < n → Pv i H → g (.int (lo + i)) (wipe σ vs) H fun σ2 H2 => wipe σ2 vs = wipe σ vs ∧ tt σ2 H2 fun b H3 =>
      if b = true then tk σ2 H3 fun y H4 => tv σ2 H4 fun z H5 => ∃ kvs k, y = kV k ∧ H5 D = some (.dK kvs) ∧ kvs.length < sizeLine ∧ Pv (i + 1) (upd H5 D (.dK (putK kvs k z))) else Pv (i + 1) H3) (hd : ∀ H, Pv n H → Qd H) :
    ∃ W : Nat → Nat → Hp → Prop, (∃ m, W 0 m (upd H1 D (.dK []))) ∧ ∀ i m H, W i m H →
      ((Itr lo n).stop i H ∧ Qd H) ∨ ((Itr lo n).go i H ∧ ∃ Nx : Hp → Prop, (∀ H', Nx H' → ∃ m', m' < m ∧ W (i + 1) m' H') ∧ ∀ x H', (Itr lo n).yld i H x H' → g x (wipe σ vs) H' fun σ2 H2 => wipe σ2 vs = wipe σ vs ∧ tt σ2 H2 fun b H3 =>
        if b = true then tk σ2 H3 fun y H4 => tv σ2 H4 fun z H5 => ∃ kvs k, y = kV k ∧ H5 D = some (.dK kvs) ∧ kvs.length < sizeLine ∧ Nx (upd H5 D (.dK (putK kvs k z))) else Nx H3) := by
  refine ⟨fun i m H => m = n - i ∧ i ≤ n ∧ Pv i H, ⟨n, by simp, Nat.zero_le _, h0⟩, ?_⟩
  rintro i m H ⟨rfl, hi, p⟩
  by_cases hlt : i < n
  · refine .inr ⟨hlt, Pv (i + 1), fun H' p' => ⟨n - (i + 1), by omega, rfl, hlt, p'⟩, fun x H' y => ?_⟩
    obtain ⟨e, y⟩ := y
    subst e y
    exact hs i _ hlt p
  · obtain rfl : i = n := by omega
    exact .inl ⟨Nat.le_refl _, hd H p⟩
def WRd (z : Str) (d nl wl : Addr) (H0 : Hp) (zs rest : List Str) (m : Nat) (σ : L2.St) (H' : Hp) : Prop := ∃ i : Nat, i ≤ zs.length ∧ m = zs.length - i ∧ σ = [some (.str z), some (.ref d), some (.ref nl), some (.ref wl), none, none] ∧ Same H0 H' ∧ H' nl = some (.lst ((zs.take i).map V.str)) ∧ H' wl = some (.lst ((zs.drop i ++ gtS :: rest).map V.str))
def spRL (K : PySem.W.Frag) : Sp := fun vs H Q _ => ∃ (z : Str) (d : Addr) (n : Nat) (ns : List Int) (zs : List Str), vs = [.str z, .ref d] ∧ z.length ≤ 50000 ∧ H d = some (.dK (plK n)) ∧ n ≤ 41 ∧ Txt.split z spS = lineW ns zs ∧ (∀ x ∈ zs, x ≠ gtS) ∧ (∀ x ∈ ns, 0 ≤ x ∧ x < (n : Int)) ∧ ns.length ≤ 100 ∧ zs.length ≤ 100 ∧
  ∀ H' t a b, Same H H' → SqT K H' t [.ref a, .ref b] → SqT K H' a (ns.map V.int) → SqT K H' b (zs.map V.str) → Q (.ref t) H'
theorem ok_rl {f : Addr} {fd : FuncData} (F : Fun K "read_line" "read_line" sread_line f fd) (T : Bi mg) (S : XOne K mg "NoText") : FnOk P w K mg base (L2.CX P w) 1 f fd ["line", "places"] (spRL K) := by
  have xNoText := S.xR
  have rE := S.r
  refine F.okX scread_line (fun vs H Q E h => ?_) (fun cdv A outer s H vs Q E hr h => ?_)
  · obtain ⟨z, d, n, ns, zs, rfl, _⟩ := h
    rfl
  · obtain ⟨z, d, n, ns, zs, rfl, lz, hd, hn, es, gz, gn, lns, lzs, q⟩ := h
    refine ⟨_, (pss_cons (ps_set (i := 2) scread_line.nd rfl (.inl rfl) (pe_lst pa_nil))
      (pss_cons (ps_set (i := 3) scread_line.nd rfl (.inl rfl) (pe_split (pv 0) pe_str))
      (pss_cons (ps_while (passes_of rfl) (PW.pt (pw_and (pt_truth (pv 3) (by intro _; rfl)) (pw_and1 (pt_cmpR op_ne (pe_ix ix_list (pv 3) pe_int (fun _ _ => rfl)) pe_str (nomark _)))))
        (pss_one (ps_expr (pe_bm PySem.F.plainAttrs_list PySem.F.slot_list_append PySem.F.type_list_append mt_append (pv 2) (pa_cons (pe_bm PySem.F.plainAttrs_list PySem.F.slot_list_pop PySem.F.type_list_pop mt_popAt (pv 3) (pa_cons pe_int pa_nil)) pa_nil)))))
      (pss_cons (ps_if (pt_not (pt_truth (pv 3) (by intro _; rfl)))
        (pss_one (ps_raise rfl (takes_of rfl rfl rfl rfl) (pmk_own PySem.F.excBase_ValueError rE.x xNoText.g xNoText.k (raises_own xNoText.b xNoText.t) rfl)))
        pss_nil)
      (pss_cons (ps_set (i := 4) scread_line.nd rfl (.inl rfl) (pe_lst pa_nil))
      (pss_cons (ps_for (passes_of rfl) rfl (pi_list (pe_slice sl_list (pv 3) (po_some pe_int) po_none)) (pg_name (i := 5) scread_line.nd rfl (.inl rfl))
        (pss_cons (ps_if (pt_cmp (pc_dnotin (hu_of hr) (pv 5) (pv 1)))
          (pss_one (ps_raise rfl (takes_of rfl rfl rfl rfl) (pmk_own PySem.F.excBase_ValueError rE.x xNoText.g xNoText.k (raises_own xNoText.b xNoText.t) rfl)))
          pss_nil)
        (pss_one (ps_expr (pe_bm PySem.F.plainAttrs_list PySem.F.slot_list_append PySem.F.type_list_append mt_append (pv 4) (pa_cons (pe_dget (hu_of hr) (pv 1) (pv 5) (fun _ _ => rfl)) pa_nil))))))
      (pss_one (ps_ret (pe_tup (pa_cons (pe_callTy call_tuple_of (by rfl) T.tuple (by decide +kernel) (pa_cons (pv 4) pa_nil)) (pa_cons (pe_callTy call_tuple_of (by rfl) T.tuple (by decide +kernel) (pa_cons (pv 2) pa_nil)) pa_nil))))))))))), ?_⟩
    refine ⟨Nat.zero_le _, fun nl hnl => ?_⟩
    have s1 := same_upd (o := .lst []) hnl
    refine ⟨_, rfl, ⟨_, rfl⟩, z, spS, rfl, rfl, by decide, szOk (by omega), fun wl hwl => ?_⟩
    rw [es] at *
    have s2 := same_upd (o := .lst ((lineW ns zs).map V.str)) hwl
    have nnw : nl ≠ wl := ne_of_none upd_same hwl
    have fwl : H wl = none := by
      cases e : H wl with
      | none => rfl
      | some o => exact nomatch hwl.symm.trans (s1 _ _ e)
    have eW : lineW ns zs = zs.drop 0 ++ gtS :: ns.map sI := by
      unfold lineW
      simp
    refine ⟨WRd z d nl wl H zs (ns.map sI), ⟨zs.length, 0, Nat.zero_le _, rfl, rfl, s1.trans s2, s2 _ _ upd_same, by rw [upd_same, eW]⟩, ?_⟩
    rintro m σ H2 ⟨i, hi, rfl, rfl, s2, h2n, h2w⟩
    refine ⟨_, rfl, _, .inl ⟨_, SqL.of h2w, rfl⟩, ?_⟩
    have ne : (((zs.drop i ++ gtS :: ns.map sI).map V.str).isEmpty) = false := by cases zs.drop i <;> rfl
    rw [ne]
    have hd2 := s2 _ _ hd
    by_cases hlt : i < zs.length
    · have hx : zs.drop i = zs[i] :: zs.drop (i + 1) := List.drop_eq_getElem_cons hlt
      have hxz := gz zs[i] (List.getElem_mem hlt)
      have ti : zs.take (i + 1) = zs.take i ++ [zs[i]] := by
        rw [List.take_add_one, List.getElem?_eq_getElem hlt]
        rfl
      generalize zs[i] = x at hx hxz ti
      rw [hx] at h2w
      refine ⟨_, rfl, wl, _, 0, .str x, rfl, rfl, SqL.of h2w, at_of (j := 0) rfl rfl, rfl, _, rfl, ?_⟩
      have hxz : x ≠ Str.ofString ">" := hxz
      rw [dec_str, decide_eq_false hxz]
      refine ⟨fun σ' H' => ∃ m', m' < zs.length - i ∧ WRd z d nl wl H zs (ns.map sI) m' σ' H', fun _ _ h => h, ?_⟩
      refine ⟨_, rfl, .inl ⟨rfl, _, SqL.of h2n⟩, _, rfl, .inl ⟨rfl, _, SqL.of h2w⟩, wl, _, 0, 0, .str x, rfl, rfl, h2w, by decide, by decide, six0 (by simp), rfl, ?_⟩
      refine ⟨nl, _, _, rfl, rfl, by rw [upd_ne nnw]; exact h2n, szLt (by rw [List.length_map, List.length_take]; omega), ?_⟩
      refine ⟨_, by omega, i + 1, hlt, rfl, rfl, smut (smut s2 fwl) hnl, ?_, ?_⟩
      · rw [upd_same, ti, List.map_append]
        rfl
      · rw [upd_ne nnw.symm, upd_same]
        rfl
    · obtain rfl : i = zs.length := by omega
      rw [List.drop_length] at h2w
      rw [List.take_length] at h2n
      refine ⟨_, rfl, wl, _, 0, .str gtS, rfl, rfl, SqL.of h2w, at_of (j := 0) rfl rfl, rfl, _, rfl, ?_⟩
      rw [dec_str, decide_eq_true (show gtS = Str.ofString ">" from rfl)]
      refine ⟨_, rfl, _, .inl ⟨_, SqL.of h2w, rfl⟩, ?_⟩
      refine iteF ⟨Nat.zero_le _, fun al hal => ?_⟩
      have s3 := same_upd (o := .lst []) hal
      have fal : H al = none := by
        cases e : H al with
        | none => rfl
        | some o => exact nomatch hal.symm.trans (s2 _ _ e)
      refine ⟨_, rfl, 1, rfl, wl, _, rfl, SqL.of (s3 _ _ h2w), fun p hp => ?_⟩
      have s4 := same_upd (o := .lst (cutV ((([] : List Str) ++ gtS :: ns.map sI).map V.str) (some 1) none)) hp
      have ecut : cutV ((([] : List Str) ++ gtS :: ns.map sI).map V.str) (some 1) none = (ns.map sI).map V.str := by
        rw [show cutV ((([] : List Str) ++ gtS :: ns.map sI).map V.str) (some 1) none = ((([] : List Str) ++ gtS :: ns.map sI).map V.str).drop 1 from cut_from (k := 1) (by simp)]
        rfl
      have hp4 : (L2.upd (L2.upd H2 al (.lst [])) p (.lst (cutV ((([] : List Str) ++ gtS :: ns.map sI).map V.str) (some 1) none))) p = some (.lst ((ns.map sI).map V.str)) := by rw [upd_same, ecut]
      have nap : al ≠ p := ne_of_none upd_same hp
      have hal4 : (L2.upd (L2.upd H2 al (.lst [])) p (.lst (cutV ((([] : List Str) ++ gtS :: ns.map sI).map V.str) (some 1) none))) al = some (.lst []) := s4 _ _ upd_same
      have s24 := (s2.trans s3).trans s4
      have hn4 := s4 _ _ (s3 _ _ h2n)
      generalize (L2.upd (L2.upd H2 al (.lst [])) p (.lst (cutV ((([] : List Str) ++ gtS :: ns.map sI).map V.str) (some 1) none))) = H4 at hp4 hal4 s24 hn4
      refine ⟨p, rfl, ⟨_, SqL.of hp4⟩, for_list (K := K) (a := p) (xs := (ns.map sI).map V.str) (fun j σ H' => ∃ y5, σ = [some (.str z), some (.ref d), some (.ref nl), some (.ref wl), some (.ref al), y5] ∧ Same H H' ∧ H' p = some (.lst ((ns.map sI).map V.str)) ∧ H' nl = some (.lst (zs.map V.str)) ∧ H' al = some (.lst ((ns.take j).map V.int))) ⟨none, rfl, s24, hp4, hn4, hal4⟩ (fun j σ H' _ ⟨_, _, _, h, _⟩ => SqL.of h) ?_ ?_⟩
      · rintro j x σ H5 hix ⟨y5, rfl, s5, h5p, h5n, h5a⟩
        rw [List.map_map] at hix
        obtain ⟨a, ha, rfl⟩ := map_get hix
        have ga := gn a (List.mem_of_getElem? ha)
        obtain ⟨c, rfl⟩ : ∃ c : Nat, a = (c : Int) := ⟨a.toNat, by omega⟩
        have hd5 := s5 _ _ hd
        have g := DGet.k (k := .inr (sI ((c : Nat) : Int))) hd5
        rw [pl_val n c (by omega) hn] at g
        refine ⟨_, rfl, _, rfl, d, _, rfl, g, _, rfl, iteF ⟨_, rfl, .inl ⟨rfl, _, SqL.of h5a⟩, _, rfl, _, rfl, d, _, rfl, g, al, _, _, rfl, rfl, h5a, szLt (by rw [List.length_map, List.length_take]; omega), ?_⟩⟩
        have nan : al ≠ nl := (ne_of_none h2n hal).symm
        refine ⟨_, rfl, smut s5 fal, by rw [upd_ne nap.symm]; exact h5p, by rw [upd_ne nan.symm]; exact h5n, ?_⟩
        rw [upd_same, List.take_add_one, ha, List.map_append]
        rfl
      · rintro σ H5 ⟨y5, rfl, s5, h5p, h5n, h5a⟩
        rw [List.length_map, List.length_map, List.take_length] at h5a
        refine ⟨_, rfl, al, _, rfl, .inl ⟨SqL.of h5a, fun t1 g1 => ⟨_, rfl, nl, _, rfl, .inl ⟨SqL.of (same_upd g1 _ _ h5n), fun t2 g2 => ⟨by show 2 ≤ sizeLine; decide, fun t3 g3 => ?_⟩⟩⟩⟩⟩
        have u1 := same_upd (o := .tup (ns.map V.int)) g1
        have u2 := same_upd (o := .tup (zs.map V.str)) g2
        have u3 := same_upd (o := .tup [.ref t1, .ref t2]) g3
        exact q _ t3 t1 t2 (((s5.trans u1).trans u2).trans u3) (SqT.of upd_same) (SqT.of (u3 _ _ (u2 _ _ upd_same))) (SqT.of (u3 _ _ upd_same))
end

theorem line_split {ns : List Int} {zs : List Str} {k : Nat} (hs : RiseI k ns) (hk : k ≤ 41) (hz : ∀ z ∈ zs, GoodName z) : Txt.split (lineT ns zs) spS = lineW ns zs := by
  refine TL.split_join (y := spS) (s := 32) (S := []) (by decide +kernel) (by decide +kernel) ?_ ?_
  · unfold lineW
    simp
  · intro x hx
    rcases List.mem_append.mp hx with hx | hx
    · rcases List.mem_append.mp hx with hx | hx
      · intro h
        have := (hz x hx).al _ h
        rw [letters_eq, List.mem_range'] at this
        omega
      · rw [List.mem_singleton.mp hx]
        decide +kernel
    · obtain ⟨n, hn, rfl⟩ := List.mem_map.mp hx
      have := hs.2 n hn
      obtain ⟨m, rfl⟩ : ∃ m : Nat, n = (m : Int) := ⟨n.toNat, by omega⟩
      exact (sI_free m (by omega)).1
theorem joinL_free {c : Nat} {y : List Nat} (hy : c ∉ y) : ∀ L : List (List Nat), (∀ l ∈ L, c ∉ l) → c ∉ TL.joinL y L
  | [], _ => List.not_mem_nil
  | [x], h => h x (List.mem_singleton.mpr rfl)
  | x :: z :: r, h => by
    show c ∉ x ++ (y ++ TL.joinL y (z :: r))
    intro q
    rcases List.mem_append.mp q with q | q
    · exact h x List.mem_cons_self q
    · rcases List.mem_append.mp q with q | q
      · exact hy q
      · exact joinL_free hy (z :: r) (fun l hl => h l (List.mem_cons_of_mem _ hl)) q
theorem line_free {ns : List Int} {zs : List Str} {k : Nat} (hs : RiseI k ns) (hk : k ≤ 41) (hz : ∀ z ∈ zs, GoodName z) : 10 ∉ (lineT ns zs).cps.toList := by
  have e : (lineT ns zs).cps.toList = TL.joinL spS.cps.toList ((lineW ns zs).map fun x => x.cps.toList) := by
    unfold lineT
    rw [TL.join_eq]
    exact TL.tl_join spS (lineW ns zs)
  rw [e]
  refine joinL_free (by decide +kernel) _ fun l hl => ?_
  obtain ⟨x, hx, rfl⟩ := List.mem_map.mp hl
  rcases List.mem_append.mp hx with hx | hx
  · rcases List.mem_append.mp hx with hx | hx
    · intro h
      have := (hz x hx).al _ h
      rw [letters_eq, List.mem_range'] at this
      omega
    · rw [List.mem_singleton.mp hx]
      decide +kernel
  · obtain ⟨n, hn, rfl⟩ := List.mem_map.mp hx
    have := hs.2 n hn
    obtain ⟨m, rfl⟩ : ∃ m : Nat, n = (m : Int) := ⟨n.toNat, by omega⟩
    exact (sI_free m (by omega)).2
theorem mach_split {steps : List (List Int)} {marks : List (List Str)} (G : GoodMach steps marks) : Txt.split (machT steps marks) nlS = linesT steps marks := by
  have hi := G.hi
  have lo := G.lo
  refine TL.split_join (y := nlS) (s := 10) (S := []) (by decide +kernel) (by decide +kernel) ?_ ?_
  · intro h
    have := lines_len G.len
    rw [h] at this
    simp at this
    omega
  · intro x hx
    unfold linesT at hx
    obtain ⟨⟨ns, zs⟩, hp, rfl⟩ := List.mem_map.mp hx
    obtain ⟨a, b⟩ := List.of_mem_zip hp
    exact line_free (G.st _ a) (by omega) (G.mr _ b).1.2
theorem mach_len {steps : List (List Int)} {marks : List (List Str)} (G : GoodMach steps marks) : (machT steps marks).length ≤ 30000 := by
  have hi := G.hi
  have a := join_len nlS (by decide) (linesT steps marks)
  have b := sumB 500 _ (lines_short G)
  rw [lines_len G.len] at a b
  show (Txt.join nlS (linesT steps marks)).length ≤ 30000
  omega
section
variable {P : Program} {w : World} {K : PySem.W.Frag} {mg : Str → Option Value} {base : Heap}
def spRM (K : PySem.W.Frag) : Sp := fun vs H Q _ => ∃ (steps : List (List Int)) (marks : List (List Str)), vs = [.str (machT steps marks)] ∧ GoodMach steps marks ∧ ∀ H' c, Same H H' → MachAt K H' c steps marks → Q (.ref c) H'
theorem ok_rm {f : Addr} {fd : FuncData} (F : Fun K "read_machine" "read_machine" sread_machine f fd) (T : Bi mg) (S : XOne K mg "NoText") (cis_machine : Cal P w K mg base 4 "is_machine" ["thing"] (spMachine K)) (cread_line : CalX P w K mg base 1 "read_line" ["line", "places"] (spRL K)) : FnOk P w K mg base (L2.CX P w) 5 f fd ["text"] (spRM K) := by
  have xNoText := S.xR
  have rE := S.r
  refine F.okX scread_machine (fun vs H Q E h => ?_) (fun cdv A outer s H vs Q E hr h => ?_)
  · obtain ⟨steps, marks, rfl, _⟩ := h
    rfl
  · obtain ⟨steps, marks, rfl, G, q⟩ := h
    have hi := G.hi
    have lo := G.lo
    have ge := G.len
    have ll := lines_len ge
    have lz := mach_len G
    have es := mach_split G
    refine ⟨_, (pss_cons (ps_if (pt_not (pt_val (pe_callB call_isi (by rfl) T.isinstance (by decide +kernel) (pa_cons (pv 0) (pa_cons (pe_bltn (v := .ty "str") (u := .type "str") (by rfl) T.str (by decide +kernel) rfl) pa_nil)))))
        (pss_one (ps_raise rfl (takes_of rfl rfl rfl rfl) (pmk_own PySem.F.excBase_ValueError rE.x xNoText.g xNoText.k (raises_own xNoText.b xNoText.t) rfl)))
        pss_nil)
      (pss_cons (ps_set (i := 1) scread_machine.nd rfl (.inl rfl) (pe_split (pv 0) pe_str))
      (pss_cons (SDC.ps_setDc (i := 2) (own := [("one", 8)]) (g := gName 8) (by rfl) scread_machine.nd rfl rfl (SDC.sw_true rfl rfl rfl (by decide +kernel)) (pi_range1 (by rfl) T.range (pa_cons (pe_callB call_len_seq (by rfl) T.len PySem.boot_len (pa_cons (pv 1) pa_nil)) pa_nil)) (blkOk_by (own := [("one", 8)]) (N := ["text", "lines", "places", "steps", "marks", "line", "ahead", "names", "one"]) (sc := defScope sread_machine) (by decide +kernel)) (fun _ _ _ _ _ => (pg_name (i := 8) scread_machine.nd rfl (.inl rfl))) (fun _ _ _ _ _ => pts_nil) (fun _ _ _ _ _ => (pe_callTy call_str_int (by rfl) T.str (by decide +kernel) (pa_cons (pv 8) pa_nil))) (fun _ _ _ _ _ => (pv 8)))
      (pss_cons (ps_set (i := 3) scread_machine.nd rfl (.inl rfl) (pe_lst pa_nil))
      (pss_cons (ps_set (i := 4) scread_machine.nd rfl (.inl rfl) (pe_lst pa_nil))
      (pss_cons (ps_for (passes_of rfl) rfl (pi_list (pv 1)) (pg_name (i := 5) scread_machine.nd rfl (.inl rfl))
        (pss_cons (ps_asg (pe_callS cread_line.G (hr.mono (by decide)) (by rfl) cread_line.g cread_line.kp cread_line.b (fun σ => passAt (takes_of rfl rfl rfl rfl) σ) (pa_cons (pv 5) (pa_cons (pv 2) pa_nil))) (pg_tup rfl (pgs_cons (pg_name (i := 6) scread_machine.nd rfl (.inl rfl)) (pgs_cons (pg_name (i := 7) scread_machine.nd rfl (.inl rfl)) pgs_nil))))
        (pss_cons (ps_expr (pe_bm PySem.F.plainAttrs_list PySem.F.slot_list_append PySem.F.type_list_append mt_append (pv 3) (pa_cons (pv 6) pa_nil)))
        (pss_one (ps_expr (pe_bm PySem.F.plainAttrs_list PySem.F.slot_list_append PySem.F.type_list_append mt_append (pv 4) (pa_cons (pv 7) pa_nil)))))))
      (pss_cons (ps_if (pt_not (pt_val (pe_call cis_machine.G hr (by rfl) cis_machine.g cis_machine.kp cis_machine.b .nil pass0 (pa_cons (pe_tup (pa_cons (pe_callTy call_tuple_of (by rfl) T.tuple (by decide +kernel) (pa_cons (pv 3) pa_nil)) (pa_cons (pe_callTy call_tuple_of (by rfl) T.tuple (by decide +kernel) (pa_cons (pv 4) pa_nil)) pa_nil))) pa_nil))))
        (pss_one (ps_raise rfl (takes_of rfl rfl rfl rfl) (pmk_own PySem.F.excBase_ValueError rE.x xNoText.g xNoText.k (raises_own xNoText.b xNoText.t) rfl)))
        pss_nil)
      (pss_one (ps_ret (pe_tup (pa_cons (pe_callTy call_tuple_of (by rfl) T.tuple (by decide +kernel) (pa_cons (pv 3) pa_nil)) (pa_cons (pe_callTy call_tuple_of (by rfl) T.tuple (by decide +kernel) (pa_cons (pv 4) pa_nil)) pa_nil)))))))))))), ?_⟩
    refine ⟨_, rfl, _, _, _, _, true, rfl, .ty "str", .base (.str _), kit_ty (by decide +kernel), true, rfl, iteF ?_⟩
    refine ⟨_, rfl, ⟨_, rfl⟩, machT steps marks, nlS, rfl, rfl, by decide, szOk (by omega), fun L hL => ?_⟩
    rw [es] at *
    have s1 := same_upd (o := .lst ((linesT steps marks).map V.str)) hL
    have h1 : (L2.upd H L (.lst ((linesT steps marks).map V.str))) L = some (.lst ((linesT steps marks).map V.str)) := upd_same
    generalize (L2.upd H L (.lst ((linesT steps marks).map V.str))) = H1 at s1 h1
    refine ⟨_, rfl, L, _, rfl, .inl (SqL.of h1), _, rfl, by omega, by rw [List.length_map]; omega, fun D hD => ?_⟩
    have fD : H D = none := by
      cases e : H D with
      | none => rfl
      | some o => exact nomatch hD.symm.trans (s1 _ _ e)
    refine dc_range (lo := 0) (n := ((((linesT steps marks).map V.str).length : Nat) : Int).toNat) (fun i H' => Same H1 H' ∧ H' D = some (.dK (plK i))) ⟨same_upd hD, upd_same⟩ (fun i H' hi2 p => ?_) (fun H2 p => ?_)
    · obtain ⟨p1, p2⟩ := p
      have hi2 : i < steps.length := by
        have : i < ((((linesT steps marks).map V.str).length : Nat) : Int).toNat := hi2
        rw [List.length_map, ll] at this
        omega
      refine ⟨rfl, _, rfl, _, rfl, Nat.lt_of_le_of_lt (Nat.log2_le_self _) (by omega), _, rfl, plK i, .inr (sI (i : Nat)), by rw [Int.zero_add]; rfl, p2, szLt (by rw [pl_len]; omega), smut p1 hD, ?_⟩
      rw [upd_same, Int.zero_add, pl_put (by omega)]
    · obtain ⟨p1, p2⟩ := p
      rw [List.length_map, ll, Int.toNat_natCast] at p2
      refine ⟨Nat.zero_le _, fun sl hsl => ⟨Nat.zero_le _, fun ml hml => ?_⟩⟩
      have u1 := same_upd (o := .lst []) hsl
      have u2 := same_upd (o := .lst []) hml
      have nsm : sl ≠ ml := ne_of_none upd_same hml
      have s2 := s1.trans p1
      have u12 := u1.trans u2
      have fsl : H sl = none := by
        cases e : H sl with
        | none => rfl
        | some o => exact nomatch hsl.symm.trans (s2 _ _ e)
      have fml : H ml = none := by
        cases e : H ml with
        | none => rfl
        | some o => exact nomatch hml.symm.trans ((s2.trans u1) _ _ e)
      have g1 := u12 _ _ (p1 _ _ h1)
      have g2 := u12 _ _ p2
      have g3 : (L2.upd (L2.upd H2 sl (.lst [])) ml (.lst [])) sl = some (.lst []) := u2 _ _ upd_same
      have g4 : (L2.upd (L2.upd H2 sl (.lst [])) ml (.lst [])) ml = some (.lst []) := upd_same
      have sg := s2.trans u12
      have nLs : L ≠ sl := ne_of_none (p1 _ _ h1) hsl
      have nLm : L ≠ ml := ne_of_none (u1 _ _ (p1 _ _ h1)) hml
      have nDs : D ≠ sl := ne_of_none p2 hsl
      have nDm : D ≠ ml := ne_of_none (u1 _ _ p2) hml
      generalize (L2.upd (L2.upd H2 sl (.lst [])) ml (.lst [])) = H3 at g1 g2 g3 g4 sg
      refine ⟨_, rfl, L, rfl, ⟨_, SqL.of g1⟩, for_list (K := K) (a := L) (xs := (linesT steps marks).map V.str) (fun i σ H' => ∃ (sa ka : List Addr) (y5 y6 y7 : Option V), σ = [some (.str (machT steps marks)), some (.ref L), some (.ref D), some (.ref sl), some (.ref ml), y5, y6, y7, none] ∧ Same H H' ∧ H' L = some (.lst ((linesT steps marks).map V.str)) ∧ H' D = some (.dK (plK steps.length)) ∧
        H' sl = some (.lst (sa.map V.ref)) ∧ H' ml = some (.lst (ka.map V.ref)) ∧ Each (fun a ns => SqT K H' a (ns.map V.int)) sa (steps.take i) ∧ Each (fun a zs => SqT K H' a (zs.map V.str)) ka (marks.take i)) ⟨[], [], none, none, none, rfl, sg, g1, g2, g3, g4, .nil, .nil⟩ (fun i σ H' _ ⟨_, _, _, _, _, _, _, h, _⟩ => SqL.of h) ?_ ?_⟩
      · rintro i x σ H4 hix ⟨sa, ka, y5, y6, y7, rfl, s4, a1, a2, a3, a4, e1, e2⟩
        obtain ⟨z, hz, rfl⟩ := map_get hix
        have il : i < steps.length := by
          have := (List.getElem?_eq_some_iff.mp hz).1
          omega
        have hn1 : steps[i]? = some steps[i] := List.getElem?_eq_getElem il
        have hz1 : marks[i]? = some (marks[i]'(by omega)) := List.getElem?_eq_getElem (by omega)
        generalize steps[i] = ns at hn1
        generalize marks[i]'(by omega) = zs at hz1
        rw [lines_at hn1 hz1] at hz
        cases hz
        have gs := G.st ns (List.mem_of_getElem? hn1)
        have gm := G.mr zs (List.mem_of_getElem? hz1)
        have ln := rise_len gs (by omega)
        have l5 := lineT_len gs (by omega) gm.1.2 gm.2
        refine ⟨_, rfl, _, rfl, lineT ns zs, D, steps.length, ns, zs, rfl, by omega, a2, by omega, line_split gs (by omega) gm.1.2, fun x hx e => ?_, gs.2, by omega, by have := gm.2; omega, fun H5 t a b s5 ht ha hb => ?_⟩
        · have := (gm.1.2 x hx).al 62 (by rw [e]; decide +kernel)
          rw [letters_eq, List.mem_range'] at this
          omega
        refine ⟨t, _, rfl, ht, rfl, _, _, rfl, _, _, rfl, rfl, ?_⟩
        have b3 := s5 _ _ a3
        have b4 := s5 _ _ a4
        have la := e1.len
        have lb := e2.len
        rw [List.length_take] at la lb
        refine ⟨_, rfl, .inl ⟨rfl, _, SqL.of b3⟩, _, rfl, sl, _, _, rfl, rfl, b3, szLt (by rw [List.length_map]; omega), ?_⟩
        have i1 : Imm H5 (L2.upd H5 sl (.lst (sa.map V.ref ++ [.ref a]))) := Imm.list b3
        have c4 : (L2.upd H5 sl (.lst (sa.map V.ref ++ [.ref a]))) ml = some (.lst (ka.map V.ref)) := by rw [upd_ne nsm.symm]; exact b4
        refine ⟨_, rfl, .inl ⟨rfl, _, SqL.of c4⟩, _, rfl, ml, _, _, rfl, rfl, c4, szLt (by rw [List.length_map]; omega), ?_⟩
        have i2 := i1.trans (Imm.list (o := .lst (ka.map V.ref ++ [.ref b])) c4)
        have i3 := (simm s5).trans i2
        refine ⟨sa ++ [a], ka ++ [b], _, _, _, rfl, smut (smut (s4.trans s5) fsl) fml, ?_, ?_, ?_, ?_, ?_, ?_⟩
        · rw [upd_ne nLm, upd_ne nLs]
          exact s5 _ _ a1
        · rw [upd_ne nDm, upd_ne nDs]
          exact s5 _ _ a2
        · rw [upd_ne nsm, upd_same, List.map_append]
          rfl
        · rw [upd_same, List.map_append]
          rfl
        · rw [List.take_add_one, hn1]
          have q1 := Each.snoc (R := fun u (x : List Int) => SqT K (L2.upd (L2.upd H5 sl (.lst (sa.map V.ref ++ [.ref a]))) ml (.lst (ka.map V.ref ++ [.ref b]))) u (x.map V.int)) (a := a) (x := ns) (as := sa) (xs := steps.take i) (i2.sq ha) (e1.imp fun _ _ h => i3.sq h)
          exact q1
        · rw [List.take_add_one, hz1]
          have q1 := Each.snoc (R := fun u (x : List Str) => SqT K (L2.upd (L2.upd H5 sl (.lst (sa.map V.ref ++ [.ref a]))) ml (.lst (ka.map V.ref ++ [.ref b]))) u (x.map V.str)) (a := b) (x := zs) (as := ka) (xs := marks.take i) (i2.sq hb) (e2.imp fun _ _ h => i3.sq h)
          exact q1
      · rintro σ H4 ⟨sa, ka, y5, y6, y7, rfl, s4, a1, a2, a3, a4, e1, e2⟩
        rw [List.length_map, ll, List.take_length] at e1
        rw [List.length_map, ll, ge, List.take_length] at e2
        have mk : ∀ (H5 : Hp) (t1 t2 t3 : Addr), Same H4 H5 → H5 t1 = some (.tup (sa.map V.ref)) → H5 t2 = some (.tup (ka.map V.ref)) → H5 t3 = some (.tup [.ref t1, .ref t2]) → MachAt K H5 t3 steps marks := fun H5 t1 t2 t3 s5 b1 b2 b3 => ⟨t1, t2, sa, ka, SqT.of b3, SqT.of b1, SqT.of b2, e1.imp fun _ _ h => ssqt s5 h, e2.imp fun _ _ h => ssqt s5 h⟩
        refine ⟨_, rfl, sl, _, rfl, .inl ⟨SqL.of a3, fun t1 k1 => ⟨_, rfl, ml, _, rfl, .inl ⟨SqL.of (same_upd k1 _ _ a4), fun t2 k2 => ⟨by show 2 ≤ sizeLine; decide, fun t3 k3 => ?_⟩⟩⟩⟩⟩
        have v1 := same_upd (o := .tup (sa.map V.ref)) k1
        have v2 := same_upd (o := .tup (ka.map V.ref)) k2
        have v3 := same_upd (o := .tup [.ref t1, .ref t2]) k3
        have v := (v1.trans v2).trans v3
        have M1 := mk _ t1 t2 t3 v (v3 _ _ (v2 _ _ upd_same)) (v3 _ _ upd_same) upd_same
        have c3 := v _ _ a3
        have c4 := v _ _ a4
        refine ⟨t3, steps, marks, rfl, M1, G, true, rfl, iteF ?_⟩
        refine ⟨_, rfl, sl, _, rfl, .inl ⟨SqL.of c3, fun t4 k4 => ⟨_, rfl, ml, _, rfl, .inl ⟨SqL.of (same_upd k4 _ _ c4), fun t5 k5 => ⟨by show 2 ≤ sizeLine; decide, fun t6 k6 => ?_⟩⟩⟩⟩⟩
        have v4 := same_upd (o := .tup (sa.map V.ref)) k4
        have v5 := same_upd (o := .tup (ka.map V.ref)) k5
        have v6 := same_upd (o := .tup [.ref t4, .ref t5]) k6
        have vv := v.trans ((v4.trans v5).trans v6)
        exact q _ t6 (s4.trans vv) (mk _ t4 t5 t6 vv (v6 _ _ (v5 _ _ upd_same)) (v6 _ _ upd_same) upd_same)
end

abbrev Ky := List L2.Key
structure RowsAt (K : PySem.W.Frag) (H : Hp) (c : Addr) (rows : List Ky) : Prop where
  ex : ∃ bs : List Addr, SqT K H c (bs.map V.ref) ∧ Each (fun a k => SqT K H a (k.map kV)) bs rows
theorem RowsAt.imm {K : PySem.W.Frag} {H H' : Hp} {t : Addr} {rows : List Ky} (S : RowsAt K H t rows) (e : Imm H H') : RowsAt K H' t rows := by
  obtain ⟨ra, h1, h2⟩ := S.ex
  exact ⟨ra, e.sq h1, h2.imp fun _ _ h => e.sq h⟩

/-! ### _law_same on rows that were read -/
abbrev s_law_same : Stmt := topS 25
theorem sc_law_same : FnScope ["_law_found", "_law_due", "_law_k"] ["_law_found", "_law_due"] (defScope s_law_same) := ⟨rfl, rfl, rfl, by decide +kernel, rfl, by decide +kernel, by decide +kernel⟩
section
variable {P : Program} {w : World} {K : PySem.W.Frag} {mg : Str → Option Value} {base : Heap}
def spSL : Sp := fun vs H Q _ => ∃ k : L2.Key, vs = [kV k, kV k] ∧ Q (.bl true) H
def spSR (K : PySem.W.Frag) : Sp := fun vs H Q _ => ∃ (a b : Addr) (k : Ky), vs = [.ref a, .ref b] ∧ SqT K H a (k.map kV) ∧ SqT K H b (k.map kV) ∧ k.length ≤ 90000 ∧ Q (.bl true) H
def spSW (K : PySem.W.Frag) : Sp := fun vs H Q _ => ((vs = [.non, .non]) ∨ (∃ z, vs = [.str z, .str z]) ∨ ∃ (a b : Addr) (rows : List Ky), vs = [.ref a, .ref b] ∧ RowsAt K H a rows ∧ RowsAt K H b rows ∧ rows.length ≤ 90000 ∧ ∀ k ∈ rows, k.length ≤ 90000) ∧ Q (.bl true) H
theorem ok_sameL {f : Addr} {fd : FuncData} (F : Fun K "_law_same" "_law_same" s_law_same f fd) (T : Bi mg) (g : mg "_law_same" = some (.ref f)) (kp : PySem.W.keepIn K (.ref f) = true) (b : Binds K fd ["_law_found", "_law_due"] []) : FnOk P w K mg base CX0 2 f fd ["_law_found", "_law_due"] spSL := by
  have c_law_same : Cal P w K mg base 1 "_law_same" ["_law_found", "_law_due"] (fun _ _ _ _ => False) := ⟨f, fd, ⟨fun _ _ _ _ h => h.elim, fun _ _ _ _ _ _ _ _ _ _ _ _ _ h => h.elim⟩, g, kp, b⟩
  refine F.ok sc_law_same (fun vs H Q E h => ?_) (fun cdv A outer s H vs Q E hr h => ?_)
  · obtain ⟨v, rfl, _⟩ := h
    rfl
  · obtain ⟨k, rfl, q⟩ := h
    refine ⟨_, (pss_cons (ps_if (pt_val (pe_callB call_isi (by rfl) T.isinstance (by decide +kernel) (pa_cons (pv 1) (pa_cons (pe_bltn (v := .ty "tuple") (u := .type "tuple") (by rfl) T.tuple (by decide +kernel) rfl) pa_nil))))
        (pss_cons (ps_if (PW.pt (pw_or (pt_not (pt_val (pe_callB call_isi (by rfl) T.isinstance (by decide +kernel) (pa_cons (pv 0) (pa_cons (pe_bltn (v := .ty "tuple") (u := .type "tuple") (by rfl) T.tuple (by decide +kernel) rfl) pa_nil))))) (pw_or1 (pt_cmpR op_ne (pe_callB call_len_seq (by rfl) T.len PySem.boot_len (pa_cons (pv 0) pa_nil)) (pe_callB call_len_seq (by rfl) T.len PySem.boot_len (pa_cons (pv 1) pa_nil)) (nomark _)))))
          (pss_one (ps_ret pe_bl))
          pss_nil)
        (pss_cons (ps_for PassesOwn.never rfl (pi_range1 (by rfl) T.range (pa_cons (pe_callB call_len_seq (by rfl) T.len PySem.boot_len (pa_cons (pv 1) pa_nil)) pa_nil)) (pg_name (i := 2) sc_law_same.nd rfl (.inl rfl))
          (pss_one (ps_if (pt_not (pt_val (pe_call c_law_same.G hr (by rfl) c_law_same.g c_law_same.kp c_law_same.b .nil pass0 (pa_cons (pe_ix ix_tup (pv 0) (pv 2) (fun _ _ => rfl)) (pa_cons (pe_ix ix_tup (pv 1) (pv 2) (fun _ _ => rfl)) pa_nil)))))
            (pss_one (ps_ret pe_bl))
            pss_nil)))
        (pss_one (ps_ret pe_bl))))
        pss_nil)
      (pss_cons (ps_if (pt_val (pe_callB call_isi (by rfl) T.isinstance (by decide +kernel) (pa_cons (pv 1) (pa_cons (pe_bltn (v := .ty "bool") (u := .type "bool") (by rfl) T.bool (by decide +kernel) rfl) pa_nil))))
        (pss_one (ps_ret (pe_and (pe_callB call_isi (by rfl) T.isinstance (by decide +kernel) (pa_cons (pv 0) (pa_cons (pe_bltn (v := .ty "bool") (u := .type "bool") (by rfl) T.bool (by decide +kernel) rfl) pa_nil))) (pe_one (pe_cmpR op_eq (pv 0) (pv 1) (nomark _))))))
        pss_nil)
      (pss_cons (ps_if (pt_val (pe_callB call_isi (by rfl) T.isinstance (by decide +kernel) (pa_cons (pv 1) (pa_cons (pe_bltn (v := .ty "int") (u := .type "int") (by rfl) T.int (by decide +kernel) rfl) pa_nil))))
        (pss_one (ps_ret (pe_and (pe_callB call_isi (by rfl) T.isinstance (by decide +kernel) (pa_cons (pv 0) (pa_cons (pe_bltn (v := .ty "int") (u := .type "int") (by rfl) T.int (by decide +kernel) rfl) pa_nil))) (pe_and (pe_not (pe_callB call_isi (by rfl) T.isinstance (by decide +kernel) (pa_cons (pv 0) (pa_cons (pe_bltn (v := .ty "bool") (u := .type "bool") (by rfl) T.bool (by decide +kernel) rfl) pa_nil)))) (pe_one (pe_cmpR op_eq (pv 0) (pv 1) (nomark _)))))))
        pss_nil)
      (pss_cons (ps_if (pt_val (pe_callB call_isi (by rfl) T.isinstance (by decide +kernel) (pa_cons (pv 1) (pa_cons (pe_bltn (v := .ty "str") (u := .type "str") (by rfl) T.str (by decide +kernel) rfl) pa_nil))))
        (pss_one (ps_ret (pe_and (pe_callB call_isi (by rfl) T.isinstance (by decide +kernel) (pa_cons (pv 0) (pa_cons (pe_bltn (v := .ty "str") (u := .type "str") (by rfl) T.str (by decide +kernel) rfl) pa_nil))) (pe_one (pe_cmpR op_eq (pv 0) (pv 1) (nomark _))))))
        pss_nil)
      (pss_one (ps_ret (pe_and (pe_cmpR op_isN (pv 1) pe_non (nomark _)) (pe_one (pe_cmpR op_isN (pv 0) pe_non (nomark _)))))))))), ?_⟩
    rcases k with n | z
    · refine ⟨_, rfl, _, _, _, _, false, rfl, .ty "tuple", .base (.int _), kit_ty (by decide +kernel), false, rfl, iteF ?_⟩
      refine ⟨_, rfl, _, _, _, _, false, rfl, .ty "bool", .base (.int _), kit_ty (by decide +kernel), false, rfl, iteF ?_⟩
      refine ⟨_, rfl, _, _, _, _, true, rfl, .ty "int", .base (.int _), kit_ty (by decide +kernel), true, rfl, iteT ?_⟩
      refine ⟨_, rfl, _, _, _, _, true, rfl, .ty "int", .base (.int _), kit_ty (by decide +kernel), true, rfl, iteT ?_⟩
      refine ⟨_, rfl, _, _, _, _, false, rfl, .ty "bool", .base (.int _), kit_ty (by decide +kernel), false, rfl, true, rfl, iteT ⟨_, rfl, _, rfl, rfl, ?_⟩⟩
      rw [decide_eq_true rfl]
      exact q
    · refine ⟨_, rfl, _, _, _, _, false, rfl, .ty "tuple", .base (.str _), kit_ty (by decide +kernel), false, rfl, iteF ?_⟩
      refine ⟨_, rfl, _, _, _, _, false, rfl, .ty "bool", .base (.str _), kit_ty (by decide +kernel), false, rfl, iteF ?_⟩
      refine ⟨_, rfl, _, _, _, _, false, rfl, .ty "int", .base (.str _), kit_ty (by decide +kernel), false, rfl, iteF ?_⟩
      refine ⟨_, rfl, _, _, _, _, true, rfl, .ty "str", .base (.str _), kit_ty (by decide +kernel), true, rfl, iteT ?_⟩
      refine ⟨_, rfl, _, _, _, _, true, rfl, .ty "str", .base (.str _), kit_ty (by decide +kernel), true, rfl, iteT ⟨_, rfl, _, rfl, rfl, ?_⟩⟩
      rw [decide_eq_true rfl]
      exact q
theorem ok_sameR {f : Addr} {fd : FuncData} (F : Fun K "_law_same" "_law_same" s_law_same f fd) (T : Bi mg) (c_law_same : Cal P w K mg base 2 "_law_same" ["_law_found", "_law_due"] spSL) : FnOk P w K mg base CX0 3 f fd ["_law_found", "_law_due"] (spSR K) := by
  refine F.ok sc_law_same (fun vs H Q E h => ?_) (fun cdv A outer s H vs Q E hr h => ?_)
  · obtain ⟨a, b, k, rfl, _⟩ := h
    rfl
  · obtain ⟨a, b, k, rfl, ha, hb, lk, q⟩ := h
    refine ⟨_, (pss_cons (ps_if (pt_val (pe_callB call_isi (by rfl) T.isinstance (by decide +kernel) (pa_cons (pv 1) (pa_cons (pe_bltn (v := .ty "tuple") (u := .type "tuple") (by rfl) T.tuple (by decide +kernel) rfl) pa_nil))))
        (pss_cons (ps_if (PW.pt (pw_or (pt_not (pt_val (pe_callB call_isi (by rfl) T.isinstance (by decide +kernel) (pa_cons (pv 0) (pa_cons (pe_bltn (v := .ty "tuple") (u := .type "tuple") (by rfl) T.tuple (by decide +kernel) rfl) pa_nil))))) (pw_or1 (pt_cmpR op_ne (pe_callB call_len_seq (by rfl) T.len PySem.boot_len (pa_cons (pv 0) pa_nil)) (pe_callB call_len_seq (by rfl) T.len PySem.boot_len (pa_cons (pv 1) pa_nil)) (nomark _)))))
          (pss_one (ps_ret pe_bl))
          pss_nil)
        (pss_cons (ps_for PassesOwn.never rfl (pi_range1 (by rfl) T.range (pa_cons (pe_callB call_len_seq (by rfl) T.len PySem.boot_len (pa_cons (pv 1) pa_nil)) pa_nil)) (pg_name (i := 2) sc_law_same.nd rfl (.inl rfl))
          (pss_one (ps_if (pt_not (pt_val (pe_call c_law_same.G hr (by rfl) c_law_same.g c_law_same.kp c_law_same.b .nil pass0 (pa_cons (pe_ix ix_tup (pv 0) (pv 2) (fun _ _ => rfl)) (pa_cons (pe_ix ix_tup (pv 1) (pv 2) (fun _ _ => rfl)) pa_nil)))))
            (pss_one (ps_ret pe_bl))
            pss_nil)))
        (pss_one (ps_ret pe_bl))))
        pss_nil)
      (pss_cons (ps_if (pt_val (pe_callB call_isi (by rfl) T.isinstance (by decide +kernel) (pa_cons (pv 1) (pa_cons (pe_bltn (v := .ty "bool") (u := .type "bool") (by rfl) T.bool (by decide +kernel) rfl) pa_nil))))
        (pss_one (ps_ret (pe_and (pe_callB call_isi (by rfl) T.isinstance (by decide +kernel) (pa_cons (pv 0) (pa_cons (pe_bltn (v := .ty "bool") (u := .type "bool") (by rfl) T.bool (by decide +kernel) rfl) pa_nil))) (pe_one (pe_cmpR op_eq (pv 0) (pv 1) (nomark _))))))
        pss_nil)
      (pss_cons (ps_if (pt_val (pe_callB call_isi (by rfl) T.isinstance (by decide +kernel) (pa_cons (pv 1) (pa_cons (pe_bltn (v := .ty "int") (u := .type "int") (by rfl) T.int (by decide +kernel) rfl) pa_nil))))
        (pss_one (ps_ret (pe_and (pe_callB call_isi (by rfl) T.isinstance (by decide +kernel) (pa_cons (pv 0) (pa_cons (pe_bltn (v := .ty "int") (u := .type "int") (by rfl) T.int (by decide +kernel) rfl) pa_nil))) (pe_and (pe_not (pe_callB call_isi (by rfl) T.isinstance (by decide +kernel) (pa_cons (pv 0) (pa_cons (pe_bltn (v := .ty "bool") (u := .type "bool") (by rfl) T.bool (by decide +kernel) rfl) pa_nil)))) (pe_one (pe_cmpR op_eq (pv 0) (pv 1) (nomark _)))))))
        pss_nil)
      (pss_cons (ps_if (pt_val (pe_callB call_isi (by rfl) T.isinstance (by decide +kernel) (pa_cons (pv 1) (pa_cons (pe_bltn (v := .ty "str") (u := .type "str") (by rfl) T.str (by decide +kernel) rfl) pa_nil))))
        (pss_one (ps_ret (pe_and (pe_callB call_isi (by rfl) T.isinstance (by decide +kernel) (pa_cons (pv 0) (pa_cons (pe_bltn (v := .ty "str") (u := .type "str") (by rfl) T.str (by decide +kernel) rfl) pa_nil))) (pe_one (pe_cmpR op_eq (pv 0) (pv 1) (nomark _))))))
        pss_nil)
      (pss_one (ps_ret (pe_and (pe_cmpR op_isN (pv 1) pe_non (nomark _)) (pe_one (pe_cmpR op_isN (pv 0) pe_non (nomark _)))))))))), ?_⟩
    refine ⟨_, rfl, _, _, _, _, true, rfl, .ty "tuple", ty_sqt hb, kit_ty (by decide +kernel), true, rfl, iteT ?_⟩
    refine ⟨_, rfl, _, _, _, _, true, rfl, .ty "tuple", ty_sqt ha, kit_ty (by decide +kernel), true, rfl, iteF ⟨_, rfl, a, _, rfl, .inr ha, _, rfl, b, _, rfl, .inr hb, rfl, _, rfl, ?_⟩⟩
    rw [decide_eq_true rfl]
    refine iteF ⟨_, rfl, b, _, rfl, .inr hb, _, rfl, by omega, by rw [List.length_map]; omega, for_range (lo := 0) (n := (((k.map kV).length : Nat) : Int).toNat) (fun i σ H' => ∃ y, σ = [some (.ref a), some (.ref b), y] ∧ H' = H) ⟨none, rfl, rfl⟩ ?_ ?_⟩
    · rintro i σ H' hi ⟨y, rfl, rfl⟩
      have hi : i < k.length := by
        have : i < (k.map kV).length := hi
        rw [List.length_map] at this
        exact this
      have e : (k.map kV)[i]? = some (kV k[i]) := get_map (List.getElem?_eq_getElem hi)
      refine ⟨_, rfl, _, rfl, a, _, _, _, rfl, rfl, ha, by rw [Int.zero_add]; exact atI_nat e, _, rfl, _, rfl, b, _, _, _, rfl, rfl, hb, by rw [Int.zero_add]; exact atI_nat e, k[i], rfl, true, rfl, iteF ⟨_, rfl, rfl⟩⟩
    · rintro σ H' ⟨y, rfl, rfl⟩
      exact q
theorem ok_sameW {f : Addr} {fd : FuncData} (F : Fun K "_law_same" "_law_same" s_law_same f fd) (T : Bi mg) (c_law_same : Cal P w K mg base 3 "_law_same" ["_law_found", "_law_due"] (spSR K)) : FnOk P w K mg base CX0 4 f fd ["_law_found", "_law_due"] (spSW K) := by
  refine F.ok sc_law_same (fun vs H Q E h => ?_) (fun cdv A outer s H vs Q E hr h => ?_)
  · obtain ⟨h, _⟩ := h
    rcases h with rfl | ⟨z, rfl⟩ | ⟨a, b, rows, rfl, _⟩ <;> rfl
  · obtain ⟨h, q⟩ := h
    refine ⟨_, (pss_cons (ps_if (pt_val (pe_callB call_isi (by rfl) T.isinstance (by decide +kernel) (pa_cons (pv 1) (pa_cons (pe_bltn (v := .ty "tuple") (u := .type "tuple") (by rfl) T.tuple (by decide +kernel) rfl) pa_nil))))
        (pss_cons (ps_if (PW.pt (pw_or (pt_not (pt_val (pe_callB call_isi (by rfl) T.isinstance (by decide +kernel) (pa_cons (pv 0) (pa_cons (pe_bltn (v := .ty "tuple") (u := .type "tuple") (by rfl) T.tuple (by decide +kernel) rfl) pa_nil))))) (pw_or1 (pt_cmpR op_ne (pe_callB call_len_seq (by rfl) T.len PySem.boot_len (pa_cons (pv 0) pa_nil)) (pe_callB call_len_seq (by rfl) T.len PySem.boot_len (pa_cons (pv 1) pa_nil)) (nomark _)))))
          (pss_one (ps_ret pe_bl))
          pss_nil)
        (pss_cons (ps_for PassesOwn.never rfl (pi_range1 (by rfl) T.range (pa_cons (pe_callB call_len_seq (by rfl) T.len PySem.boot_len (pa_cons (pv 1) pa_nil)) pa_nil)) (pg_name (i := 2) sc_law_same.nd rfl (.inl rfl))
          (pss_one (ps_if (pt_not (pt_val (pe_call c_law_same.G hr (by rfl) c_law_same.g c_law_same.kp c_law_same.b .nil pass0 (pa_cons (pe_ix ix_tup (pv 0) (pv 2) (fun _ _ => rfl)) (pa_cons (pe_ix ix_tup (pv 1) (pv 2) (fun _ _ => rfl)) pa_nil)))))
            (pss_one (ps_ret pe_bl))
            pss_nil)))
        (pss_one (ps_ret pe_bl))))
        pss_nil)
      (pss_cons (ps_if (pt_val (pe_callB call_isi (by rfl) T.isinstance (by decide +kernel) (pa_cons (pv 1) (pa_cons (pe_bltn (v := .ty "bool") (u := .type "bool") (by rfl) T.bool (by decide +kernel) rfl) pa_nil))))
        (pss_one (ps_ret (pe_and (pe_callB call_isi (by rfl) T.isinstance (by decide +kernel) (pa_cons (pv 0) (pa_cons (pe_bltn (v := .ty "bool") (u := .type "bool") (by rfl) T.bool (by decide +kernel) rfl) pa_nil))) (pe_one (pe_cmpR op_eq (pv 0) (pv 1) (nomark _))))))
        pss_nil)
      (pss_cons (ps_if (pt_val (pe_callB call_isi (by rfl) T.isinstance (by decide +kernel) (pa_cons (pv 1) (pa_cons (pe_bltn (v := .ty "int") (u := .type "int") (by rfl) T.int (by decide +kernel) rfl) pa_nil))))
        (pss_one (ps_ret (pe_and (pe_callB call_isi (by rfl) T.isinstance (by decide +kernel) (pa_cons (pv 0) (pa_cons (pe_bltn (v := .ty "int") (u := .type "int") (by rfl) T.int (by decide +kernel) rfl) pa_nil))) (pe_and (pe_not (pe_callB call_isi (by rfl) T.isinstance (by decide +kernel) (pa_cons (pv 0) (pa_cons (pe_bltn (v := .ty "bool") (u := .type "bool") (by rfl) T.bool (by decide +kernel) rfl) pa_nil)))) (pe_one (pe_cmpR op_eq (pv 0) (pv 1) (nomark _)))))))
        pss_nil)
      (pss_cons (ps_if (pt_val (pe_callB call_isi (by rfl) T.isinstance (by decide +kernel) (pa_cons (pv 1) (pa_cons (pe_bltn (v := .ty "str") (u := .type "str") (by rfl) T.str (by decide +kernel) rfl) pa_nil))))
        (pss_one (ps_ret (pe_and (pe_callB call_isi (by rfl) T.isinstance (by decide +kernel) (pa_cons (pv 0) (pa_cons (pe_bltn (v := .ty "str") (u := .type "str") (by rfl) T.str (by decide +kernel) rfl) pa_nil))) (pe_one (pe_cmpR op_eq (pv 0) (pv 1) (nomark _))))))
        pss_nil)
      (pss_one (ps_ret (pe_and (pe_cmpR op_isN (pv 1) pe_non (nomark _)) (pe_one (pe_cmpR op_isN (pv 0) pe_non (nomark _)))))))))), ?_⟩
    rcases h with rfl | ⟨z, rfl⟩ | ⟨a, b, rows, rfl, ha, hb, lr, lk⟩
    · refine ⟨_, rfl, _, _, _, _, false, rfl, .ty "tuple", .base .non, kit_ty (by decide +kernel), false, rfl, iteF ?_⟩
      refine ⟨_, rfl, _, _, _, _, false, rfl, .ty "bool", .base .non, kit_ty (by decide +kernel), false, rfl, iteF ?_⟩
      refine ⟨_, rfl, _, _, _, _, false, rfl, .ty "int", .base .non, kit_ty (by decide +kernel), false, rfl, iteF ?_⟩
      refine ⟨_, rfl, _, _, _, _, false, rfl, .ty "str", .base .non, kit_ty (by decide +kernel), false, rfl, iteF ?_⟩
      refine ⟨_, rfl, rfl, _, rfl, iteT ⟨_, rfl, rfl, ?_⟩⟩
      exact q
    · refine ⟨_, rfl, _, _, _, _, false, rfl, .ty "tuple", .base (.str _), kit_ty (by decide +kernel), false, rfl, iteF ?_⟩
      refine ⟨_, rfl, _, _, _, _, false, rfl, .ty "bool", .base (.str _), kit_ty (by decide +kernel), false, rfl, iteF ?_⟩
      refine ⟨_, rfl, _, _, _, _, false, rfl, .ty "int", .base (.str _), kit_ty (by decide +kernel), false, rfl, iteF ?_⟩
      refine ⟨_, rfl, _, _, _, _, true, rfl, .ty "str", .base (.str _), kit_ty (by decide +kernel), true, rfl, iteT ?_⟩
      refine ⟨_, rfl, _, _, _, _, true, rfl, .ty "str", .base (.str _), kit_ty (by decide +kernel), true, rfl, iteT ⟨_, rfl, _, rfl, rfl, ?_⟩⟩
      rw [decide_eq_true rfl]
      exact q
    · obtain ⟨as, ha1, ha2⟩ := ha.ex
      obtain ⟨bs, hb1, hb2⟩ := hb.ex
      have la := ha2.len
      have lb := hb2.len
      refine ⟨_, rfl, _, _, _, _, true, rfl, .ty "tuple", ty_sqt hb1, kit_ty (by decide +kernel), true, rfl, iteT ?_⟩
      refine ⟨_, rfl, _, _, _, _, true, rfl, .ty "tuple", ty_sqt ha1, kit_ty (by decide +kernel), true, rfl, iteF ⟨_, rfl, a, _, rfl, .inr ha1, _, rfl, b, _, rfl, .inr hb1, rfl, _, rfl, ?_⟩⟩
      rw [List.length_map, List.length_map, la, lb, decide_eq_true rfl]
      refine iteF ⟨_, rfl, b, _, rfl, .inr hb1, _, rfl, by omega, by rw [List.length_map]; omega, for_range (lo := 0) (n := (((bs.map V.ref).length : Nat) : Int).toNat) (fun i σ H' => ∃ y, σ = [some (.ref a), some (.ref b), y] ∧ H' = H) ⟨none, rfl, rfl⟩ ?_ ?_⟩
      · rintro i σ H' hi ⟨y, rfl, rfl⟩
        have hi : i < rows.length := by
          have : i < (bs.map V.ref).length := hi
          rw [List.length_map, lb] at this
          exact this
        have hk : rows[i]? = some rows[i] := List.getElem?_eq_getElem hi
        have lki := lk _ (List.mem_of_getElem? hk)
        obtain ⟨a1, ea, xa⟩ := ha2.getx hk
        obtain ⟨b1, eb, xb⟩ := hb2.getx hk
        refine ⟨_, rfl, _, rfl, a, _, _, _, rfl, rfl, ha1, by rw [Int.zero_add]; exact atI_nat (get_map ea), _, rfl, _, rfl, b, _, _, _, rfl, rfl, hb1, by rw [Int.zero_add]; exact atI_nat (get_map eb), a1, b1, rows[i], rfl, xa, xb, lki, true, rfl, iteF ⟨_, rfl, rfl⟩⟩
      · rintro σ H' ⟨y, rfl, rfl⟩
        exact q
theorem ok_sameA {f : Addr} {fd : FuncData} (F : Fun K "_law_same" "_law_same" s_law_same f fd) (T : Bi mg) (g : mg "_law_same" = some (.ref f)) (kp : PySem.W.keepIn K (.ref f) = true) (b : Binds K fd ["_law_found", "_law_due"] []) : FnOk P w K mg base CX0 4 f fd ["_law_found", "_law_due"] (spSW K) :=
  ok_sameW F T ⟨f, fd, ok_sameR F T ⟨f, fd, ok_sameL F T g kp b, g, kp, b⟩, g, kp, b⟩
end

/-! ### the law -/
abbrev slaw : Stmt := topS 28
theorem sclaw : FnScope ["_law_script", "_law_pool_here", "_law_great", "_law_names_here", "_law_machine_here", "_law_text", "_law_found"] ["_law_script"] (defScope slaw) := ⟨rfl, rfl, rfl, by decide +kernel, rfl, by decide +kernel, by decide +kernel⟩
section
variable {P : Program} {w : World} {K : PySem.W.Frag} {mg : Str → Option Value} {base : Heap}
theorem rows_int {H : Hp} : ∀ {as : List Addr} {rows : List (List Int)}, Each (fun a ns => SqT K H a (ns.map V.int)) as rows → Each (fun a k => SqT K H a (k.map kV)) as (rows.map fun ns => ns.map Sum.inl)
  | _, _, .nil => .nil
  | _, _, .cons h t => .cons (by
      rw [List.map_map]
      exact h) (rows_int t)
theorem rows_str {H : Hp} : ∀ {as : List Addr} {rows : List (List Str)}, Each (fun a ns => SqT K H a (ns.map V.str)) as rows → Each (fun a k => SqT K H a (k.map kV)) as (rows.map fun ns => ns.map Sum.inr)
  | _, _, .nil => .nil
  | _, _, .cons h t => .cons (by
      rw [List.map_map]
      exact h) (rows_str t)
def spSM (K : PySem.W.Frag) : Sp := fun vs H Q _ => ((∃ z, vs = [.str z, .str z]) ∨ ∃ (a b : Addr) (steps : List (List Int)) (marks : List (List Str)), vs = [.ref a, .ref b] ∧ MachAt K H a steps marks ∧ MachAt K H b steps marks ∧ GoodMach steps marks) ∧ Q (.bl true) H
theorem ok_sameM {f : Addr} {fd : FuncData} (F : Fun K "_law_same" "_law_same" s_law_same f fd) (T : Bi mg) (c_law_same : Cal P w K mg base 4 "_law_same" ["_law_found", "_law_due"] (spSW K)) : FnOk P w K mg base CX0 5 f fd ["_law_found", "_law_due"] (spSM K) := by
  refine F.ok sc_law_same (fun vs H Q E h => ?_) (fun cdv A outer s H vs Q E hr h => ?_)
  · obtain ⟨h, _⟩ := h
    rcases h with ⟨z, rfl⟩ | ⟨a, b, _, _, rfl, _⟩ <;> rfl
  · obtain ⟨h, q⟩ := h
    refine ⟨_, (pss_cons (ps_if (pt_val (pe_callB call_isi (by rfl) T.isinstance (by decide +kernel) (pa_cons (pv 1) (pa_cons (pe_bltn (v := .ty "tuple") (u := .type "tuple") (by rfl) T.tuple (by decide +kernel) rfl) pa_nil))))
        (pss_cons (ps_if (PW.pt (pw_or (pt_not (pt_val (pe_callB call_isi (by rfl) T.isinstance (by decide +kernel) (pa_cons (pv 0) (pa_cons (pe_bltn (v := .ty "tuple") (u := .type "tuple") (by rfl) T.tuple (by decide +kernel) rfl) pa_nil))))) (pw_or1 (pt_cmpR op_ne (pe_callB call_len_seq (by rfl) T.len PySem.boot_len (pa_cons (pv 0) pa_nil)) (pe_callB call_len_seq (by rfl) T.len PySem.boot_len (pa_cons (pv 1) pa_nil)) (nomark _)))))
          (pss_one (ps_ret pe_bl))
          pss_nil)
        (pss_cons (ps_for PassesOwn.never rfl (pi_range1 (by rfl) T.range (pa_cons (pe_callB call_len_seq (by rfl) T.len PySem.boot_len (pa_cons (pv 1) pa_nil)) pa_nil)) (pg_name (i := 2) sc_law_same.nd rfl (.inl rfl))
          (pss_one (ps_if (pt_not (pt_val (pe_call c_law_same.G hr (by rfl) c_law_same.g c_law_same.kp c_law_same.b .nil pass0 (pa_cons (pe_ix ix_tup (pv 0) (pv 2) (fun _ _ => rfl)) (pa_cons (pe_ix ix_tup (pv 1) (pv 2) (fun _ _ => rfl)) pa_nil)))))
            (pss_one (ps_ret pe_bl))
            pss_nil)))
        (pss_one (ps_ret pe_bl))))
        pss_nil)
      (pss_cons (ps_if (pt_val (pe_callB call_isi (by rfl) T.isinstance (by decide +kernel) (pa_cons (pv 1) (pa_cons (pe_bltn (v := .ty "bool") (u := .type "bool") (by rfl) T.bool (by decide +kernel) rfl) pa_nil))))
        (pss_one (ps_ret (pe_and (pe_callB call_isi (by rfl) T.isinstance (by decide +kernel) (pa_cons (pv 0) (pa_cons (pe_bltn (v := .ty "bool") (u := .type "bool") (by rfl) T.bool (by decide +kernel) rfl) pa_nil))) (pe_one (pe_cmpR op_eq (pv 0) (pv 1) (nomark _))))))
        pss_nil)
      (pss_cons (ps_if (pt_val (pe_callB call_isi (by rfl) T.isinstance (by decide +kernel) (pa_cons (pv 1) (pa_cons (pe_bltn (v := .ty "int") (u := .type "int") (by rfl) T.int (by decide +kernel) rfl) pa_nil))))
        (pss_one (ps_ret (pe_and (pe_callB call_isi (by rfl) T.isinstance (by decide +kernel) (pa_cons (pv 0) (pa_cons (pe_bltn (v := .ty "int") (u := .type "int") (by rfl) T.int (by decide +kernel) rfl) pa_nil))) (pe_and (pe_not (pe_callB call_isi (by rfl) T.isinstance (by decide +kernel) (pa_cons (pv 0) (pa_cons (pe_bltn (v := .ty "bool") (u := .type "bool") (by rfl) T.bool (by decide +kernel) rfl) pa_nil)))) (pe_one (pe_cmpR op_eq (pv 0) (pv 1) (nomark _)))))))
        pss_nil)
      (pss_cons (ps_if (pt_val (pe_callB call_isi (by rfl) T.isinstance (by decide +kernel) (pa_cons (pv 1) (pa_cons (pe_bltn (v := .ty "str") (u := .type "str") (by rfl) T.str (by decide +kernel) rfl) pa_nil))))
        (pss_one (ps_ret (pe_and (pe_callB call_isi (by rfl) T.isinstance (by decide +kernel) (pa_cons (pv 0) (pa_cons (pe_bltn (v := .ty "str") (u := .type "str") (by rfl) T.str (by decide +kernel) rfl) pa_nil))) (pe_one (pe_cmpR op_eq (pv 0) (pv 1) (nomark _))))))
        pss_nil)
      (pss_one (ps_ret (pe_and (pe_cmpR op_isN (pv 1) pe_non (nomark _)) (pe_one (pe_cmpR op_isN (pv 0) pe_non (nomark _)))))))))), ?_⟩
    rcases h with ⟨z, rfl⟩ | ⟨a, b, steps, marks, rfl, ha, hb, G⟩
    · refine ⟨_, rfl, _, _, _, _, false, rfl, .ty "tuple", .base (.str _), kit_ty (by decide +kernel), false, rfl, iteF ?_⟩
      refine ⟨_, rfl, _, _, _, _, false, rfl, .ty "bool", .base (.str _), kit_ty (by decide +kernel), false, rfl, iteF ?_⟩
      refine ⟨_, rfl, _, _, _, _, false, rfl, .ty "int", .base (.str _), kit_ty (by decide +kernel), false, rfl, iteF ?_⟩
      refine ⟨_, rfl, _, _, _, _, true, rfl, .ty "str", .base (.str _), kit_ty (by decide +kernel), true, rfl, iteT ?_⟩
      refine ⟨_, rfl, _, _, _, _, true, rfl, .ty "str", .base (.str _), kit_ty (by decide +kernel), true, rfl, iteT ⟨_, rfl, _, rfl, rfl, ?_⟩⟩
      rw [decide_eq_true rfl]
      exact q
    · obtain ⟨s1, k1, sa, ka, x1, x2, x3, x4, x5⟩ := ha.ex
      obtain ⟨s2, k2, sb, kb, y1, y2, y3, y4, y5⟩ := hb.ex
      have hi := G.hi
      have gl := G.len
      refine ⟨_, rfl, _, _, _, _, true, rfl, .ty "tuple", ty_sqt y1, kit_ty (by decide +kernel), true, rfl, iteT ?_⟩
      refine ⟨_, rfl, _, _, _, _, true, rfl, .ty "tuple", ty_sqt x1, kit_ty (by decide +kernel), true, rfl, iteF ⟨_, rfl, a, _, rfl, .inr x1, _, rfl, b, _, rfl, .inr y1, rfl, _, rfl, ?_⟩⟩
      rw [show decide (V.int (([V.ref s1, V.ref k1].length : Nat) : Int) = V.int (([V.ref s2, V.ref k2].length : Nat) : Int)) = true from decide_eq_true rfl]
      refine iteF ⟨_, rfl, b, _, rfl, .inr y1, _, rfl, by show -2 ^ 62 ≤ (2 : Int); decide, by show (2 : Int) < 2 ^ 62; decide, for_range (lo := 0) (n := 2) (fun i σ H' => ∃ y, σ = [some (.ref a), some (.ref b), y] ∧ H' = H) ⟨none, rfl, rfl⟩ ?_ ?_⟩
      · rintro i σ H' hi2 ⟨y, rfl, rfl⟩
        have hi2 : i = 0 ∨ i = 1 := by omega
        rcases hi2 with rfl | rfl
        · refine ⟨_, rfl, _, rfl, a, _, _, .ref s1, rfl, rfl, x1, at_of (j := 0) rfl rfl, _, rfl, _, rfl, b, _, _, .ref s2, rfl, rfl, y1, at_of (j := 0) rfl rfl, .inr (.inr ⟨s1, s2, steps.map fun ns => ns.map Sum.inl, rfl, ⟨sa, x2, rows_int x4⟩, ⟨sb, y2, rows_int y4⟩, by rw [List.length_map]; omega, fun k hk => ?_⟩), true, rfl, iteF ⟨_, rfl, rfl⟩⟩
          obtain ⟨ns, hn, rfl⟩ := List.mem_map.mp hk
          have := rise_len (G.st ns hn) (by omega)
          rw [List.length_map]
          omega
        · refine ⟨_, rfl, _, rfl, a, _, _, .ref k1, rfl, rfl, x1, at_of (j := 1) rfl rfl, _, rfl, _, rfl, b, _, _, .ref k2, rfl, rfl, y1, at_of (j := 1) rfl rfl, .inr (.inr ⟨k1, k2, marks.map fun ns => ns.map Sum.inr, rfl, ⟨ka, x3, rows_str x5⟩, ⟨kb, y3, rows_str y5⟩, by rw [List.length_map]; omega, fun k hk => ?_⟩), true, rfl, iteF ⟨_, rfl, rfl⟩⟩
          obtain ⟨ns, hn, rfl⟩ := List.mem_map.mp hk
          have := (G.mr ns hn).2
          rw [List.length_map]
          omega
      · rintro σ H' ⟨y, rfl, rfl⟩
        exact q
theorem ok_same5 {f : Addr} {fd : FuncData} (F : Fun K "_law_same" "_law_same" s_law_same f fd) (T : Bi mg) (g : mg "_law_same" = some (.ref f)) (kp : PySem.W.keepIn K (.ref f) = true) (b : Binds K fd ["_law_found", "_law_due"] []) : FnOk P w K mg base CX0 5 f fd ["_law_found", "_law_due"] (spSM K) :=
  ok_sameM F T ⟨f, fd, ok_sameA F T g kp b, g, kp, b⟩
theorem small_good : GoodMach [[1], []] [[], []] where
  len := rfl
  lo := by decide
  hi := by decide
  st := by
    intro r hr
    rcases List.mem_cons.mp hr with rfl | hr
    · exact ⟨List.pairwise_singleton _ _, fun n hn => by rw [List.mem_singleton.mp hn]; decide⟩
    · rw [List.mem_singleton.mp hr]
      exact ⟨List.Pairwise.nil, fun n hn => absurd hn List.not_mem_nil⟩
  mr := by
    intro r hr
    have : r = [] := by
      rcases List.mem_cons.mp hr with rfl | hr
      · rfl
      · exact List.mem_singleton.mp hr
    rw [this]
    exact ⟨⟨List.Pairwise.nil, fun n hn => absurd hn List.not_mem_nil⟩, Nat.zero_le _⟩
theorem small_text : machT [[1], []] [[], []] = Str.ofString "> 1\n>" := by decide +kernel
def spLaw (K : PySem.W.Frag) : Sp := fun vs H Q _ => ∃ (l : Addr) (ns : List Int), vs = [.ref l] ∧ SqL K H l (ns.map V.int) ∧ ns.length ≤ 63 ∧ ∀ H', Q (.bl true) H'
theorem ok_law {f : Addr} {fd : FuncData} (F : Fun K "law" "law" slaw f fd) (T : Bi mg) (c_law_pool : Cal P w K mg base 1 "_law_pool" ["_law_script"] (spPool K)) (c_law_draw : Cal P w K mg base 1 "_law_draw" ["_law_pool_here", "_law_many"] spDraw) (c_law_names : Cal P w K mg base 3 "_law_names" ["_law_pool_here", "_law_many"] spLNames)
    (c_law_machine : Cal P w K mg base 2 "_law_machine" ["_law_pool_here", "_law_names_here", "_law_most"] (spLMach K)) (c_law_great_machine : Cal P w K mg base 2 "_law_great_machine" ["_law_pool_here", "_law_names_here"] (spGreat K)) (cmachine_text : Cal P w K mg base 1 "machine_text" ["machine"] (spMT K))
    (c_law_machine_text : Cal P w K mg base 2 "_law_machine_text" ["_law_machine_here"] (spMT K)) (cread_machine : CalX P w K mg base 5 "read_machine" ["text"] (spRM K)) (c_law_same : Cal P w K mg base 5 "_law_same" ["_law_found", "_law_due"] (spSM K)) :
    FnOk P w K mg base CX0 6 f fd ["_law_script"] (spLaw K) := by
  refine F.ok sclaw (fun vs H Q E h => ?_) (fun cdv A outer s H vs Q E hr h => ?_)
  · obtain ⟨l, ns, rfl, _⟩ := h
    rfl
  · obtain ⟨l, ns, rfl, hS, hlen, q⟩ := h
    refine ⟨_, (pss_cons (ps_set (i := 1) sclaw.nd rfl (.inl rfl) (pe_call c_law_pool.G (hr.mono (by decide)) (by rfl) c_law_pool.g c_law_pool.kp c_law_pool.b .nil pass0 (pa_cons (pv 0) pa_nil)))
      (pss_cons (ps_set (i := 2) sclaw.nd rfl (.inl rfl) (pe_cmpR op_eq (pe_call c_law_draw.G (hr.mono (by decide)) (by rfl) c_law_draw.g c_law_draw.kp c_law_draw.b .nil pass0 (pa_cons (pv 1) (pa_cons pe_int pa_nil))) pe_int (nomark _)))
      (pss_cons (ps_set (i := 3) sclaw.nd rfl (.inl rfl) (pe_call c_law_names.G (hr.mono (by decide)) (by rfl) c_law_names.g c_law_names.kp c_law_names.b .nil pass0 (pa_cons (pv 1) (pa_cons (pe_call c_law_draw.G (hr.mono (by decide)) (by rfl) c_law_draw.g c_law_draw.kp c_law_draw.b .nil pass0 (pa_cons (pv 1) (pa_cons pe_int pa_nil))) pa_nil))))
      (pss_cons (ps_set (i := 4) sclaw.nd rfl (.inl rfl) (pe_call c_law_machine.G (hr.mono (by decide)) (by rfl) c_law_machine.g c_law_machine.kp c_law_machine.b .nil pass0 (pa_cons (pv 1) (pa_cons (pv 3) (pa_cons pe_int pa_nil)))))
      (Evl.pss_cut (ps_if (pt_val (pv 2))
        (pss_one (ps_set (i := 4) sclaw.nd rfl (.inl rfl) (pe_call c_law_great_machine.G (hr.mono (by decide)) (by rfl) c_law_great_machine.g c_law_great_machine.kp c_law_great_machine.b .nil pass0 (pa_cons (pv 1) (pa_cons (pv 3) pa_nil)))))
        pss_nil)
      (pss_cons (ps_set (i := 5) sclaw.nd rfl (.inl rfl) (pe_call cmachine_text.G (hr.mono (by decide)) (by rfl) cmachine_text.g cmachine_text.kp cmachine_text.b .nil pass0 (pa_cons (pv 4) pa_nil)))
      (Evl.pss_cut (ps_if (pt_not (pt_val (pe_call c_law_same.G hr (by rfl) c_law_same.g c_law_same.kp c_law_same.b .nil pass0 (pa_cons (pv 5) (pa_cons (pe_call c_law_machine_text.G (hr.mono (by decide)) (by rfl) c_law_machine_text.g c_law_machine_text.kp c_law_machine_text.b .nil pass0 (pa_cons (pv 4) pa_nil)) pa_nil)))))
        (pss_one (ps_ret pe_bl))
        pss_nil)
      (pss_cons (ps_set (i := 6) sclaw.nd rfl (.inl rfl) (pe_callS cread_machine.G hr (by rfl) cread_machine.g cread_machine.kp cread_machine.b (fun σ => passAt takes0 σ) (pa_cons (pv 5) pa_nil)))
      (Evl.pss_cut (ps_if (pt_not (pt_val (pe_call c_law_same.G hr (by rfl) c_law_same.g c_law_same.kp c_law_same.b .nil pass0 (pa_cons (pe_call cmachine_text.G (hr.mono (by decide)) (by rfl) cmachine_text.g cmachine_text.kp cmachine_text.b .nil pass0 (pa_cons (pe_tup (pa_cons (pe_tup (pa_cons (pe_tup (pa_cons pe_int pa_nil)) (pa_cons (pe_tup pa_nil) pa_nil))) (pa_cons (pe_tup (pa_cons (pe_tup pa_nil) (pa_cons (pe_tup pa_nil) pa_nil))) pa_nil))) pa_nil)) (pa_cons pe_str pa_nil)))))
        (pss_one (ps_ret pe_bl))
        pss_nil)
      (pss_one (ps_ret (pe_and (pe_call c_law_same.G hr (by rfl) c_law_same.g c_law_same.kp c_law_same.b .nil pass0 (pa_cons (pv 6) (pa_cons (pv 4) pa_nil))) (pe_one (pe_call c_law_same.G hr (by rfl) c_law_same.g c_law_same.kp c_law_same.b .nil pass0 (pa_cons (pe_call cmachine_text.G (hr.mono (by decide)) (by rfl) cmachine_text.g cmachine_text.kp cmachine_text.b .nil pass0 (pa_cons (pv 6) pa_nil)) (pa_cons (pv 5) pa_nil)))))))))))))))), ?_⟩
    refine ⟨_, rfl, l, ns, rfl, hS, hlen, fun H1 PL s1 P1 => ?_⟩
    refine ⟨_, rfl, PL, 0, 2, rfl, P1, by decide, by decide, by decide, fun H2 x _ _ P2 _ => ⟨rfl, ?_⟩⟩
    generalize decide (V.int x = V.int 1) = great
    refine ⟨_, rfl, _, rfl, PL, _, 9, rfl, P2, by decide, by decide, by decide, fun H3 n n0 n1 P3 _ => ?_⟩
    obtain ⟨n, rfl⟩ : ∃ m : Nat, n = (m : Int) := ⟨n.toNat, by omega⟩
    refine ⟨PL, _, n, rfl, P3, by decide, by omega, fun H4 ln zs P4 _ hl4 ol4 nz gz lz => ?_⟩
    refine ⟨_, rfl, _, rfl, PL, _, ln, zs, 6, rfl, P4, by omega, hl4, ol4, nz, gz, by omega, by decide, by decide, fun H5 m steps marks P5 k5 M5 G5 _ => ?_⟩
    have hl5 := k5 _ _ hl4 ol4
    refine ⟨fun σ' H' => ∃ (m : Addr) (steps : List (List Int)) (marks : List (List Str)), σ' = [some (.ref l), some (.ref PL.p), some (.bl great), some (.ref ln), some (.ref m), none, none] ∧ MachAt K H' m steps marks ∧ GoodMach steps marks, ?_, ?_⟩
    · refine ⟨_, rfl, great, rfl, ?_⟩
      cases great with
      | false => exact iteF ⟨m, steps, marks, rfl, M5, G5⟩
      | true => exact iteT ⟨_, rfl, _, rfl, PL, _, ln, zs, rfl, P5, by omega, hl5, ol4, nz, gz, by omega, fun H6 m2 st2 mk2 _ _ M6 G6 => ⟨m2, st2, mk2, rfl, M6, G6⟩⟩
    rintro σ H6 ⟨m, steps, marks, rfl, M, G⟩
    refine ⟨_, rfl, m, steps, marks, rfl, M, G, fun H7 s7 => ?_⟩
    have M7 := M.imm (simm s7)
    refine ⟨fun σ' H' => σ' = [some (.ref l), some (.ref PL.p), some (.bl great), some (.ref ln), some (.ref m), some (.str (machT steps marks)), none] ∧ MachAt K H' m steps marks, ?_, ?_⟩
    · exact ⟨_, rfl, _, rfl, m, steps, marks, rfl, M7, G, fun H8 s8 => ⟨.inl ⟨_, rfl⟩, true, rfl, iteF ⟨rfl, M7.imm (simm s8)⟩⟩⟩
    rintro σ H8 ⟨rfl, M8⟩
    refine ⟨_, rfl, steps, marks, rfl, G, fun H9 c s9 C9 => ?_⟩
    have M9 := M8.imm (simm s9)
    refine ⟨fun σ' H' => σ' = [some (.ref l), some (.ref PL.p), some (.bl great), some (.ref ln), some (.ref m), some (.str (machT steps marks)), some (.ref c)] ∧ Same H9 H', ?_, ?_⟩
    · refine ⟨by show 1 ≤ sizeLine; decide, fun t1 h1 => ⟨by show 0 ≤ sizeLine; decide, fun t2 h2 => ⟨by show 2 ≤ sizeLine; decide, fun t3 h3 => ⟨by show 0 ≤ sizeLine; decide, fun t4 h4 => ⟨by show 0 ≤ sizeLine; decide, fun t5 h5 => ⟨by show 2 ≤ sizeLine; decide, fun t6 h6 => ⟨by show 2 ≤ sizeLine; decide, fun t7 h7 => ?_⟩⟩⟩⟩⟩⟩⟩
      have z1 := same_upd (o := .tup (([1] : List Int).map V.int)) h1
      have z2 := same_upd (o := .tup (([] : List Int).map V.int)) h2
      have z3 := same_upd (o := .tup ([t1, t2].map V.ref)) h3
      have z4 := same_upd (o := .tup (([] : List Str).map V.str)) h4
      have z5 := same_upd (o := .tup (([] : List Str).map V.str)) h5
      have z6 := same_upd (o := .tup ([t4, t5].map V.ref)) h6
      have z7 := same_upd (o := .tup [.ref t3, .ref t6]) h7
      have z67 := z6.trans z7
      have z57 := z5.trans z67
      have z47 := z4.trans z57
      have z37 := z3.trans z47
      have z27 := z2.trans z37
      have z17 := z1.trans z27
      refine ⟨t7, [[1], []], [[], []], rfl, ⟨t3, t6, [t1, t2], [t4, t5], SqT.of upd_same, SqT.of (z47 _ _ upd_same), SqT.of (z7 _ _ upd_same), .cons (SqT.of (z27 _ _ upd_same)) (.cons (SqT.of (z37 _ _ upd_same)) .nil), .cons (SqT.of (z57 _ _ upd_same)) (.cons (SqT.of (z67 _ _ upd_same)) .nil)⟩, small_good, fun H' s' => ?_⟩
      rw [small_text]
      exact ⟨.inl ⟨_, rfl⟩, true, rfl, iteF ⟨rfl, z17.trans s'⟩⟩
    rintro σ H10 ⟨rfl, s10⟩
    refine ⟨_, rfl, _, rfl, .inr ⟨c, m, steps, marks, rfl, C9.imm (simm s10), M9.imm (simm s10), G⟩, true, rfl, iteT ?_⟩
    exact ⟨_, rfl, c, steps, marks, rfl, C9.imm (simm s10), G, fun H' s' => ⟨_, rfl, .inl ⟨_, rfl⟩, q _⟩⟩
end

/-! ### what the top has written; the law's own head -/
theorem all_mk {l : PySem.W.OpenLaw} {w : World} {K : PySem.W.Frag} {h : Heap} {mg : Str → Option Value} {fa f1 f2 f3 f4 f5 f6 f7 f8 f9 f10 f11 f12 f13 f14 f15 f16 f17 f18 f19 f20 : Addr} (X : K.In h) (G : h.Ns mainGlobals mg) (hfa : mg "law" = some (.ref fa))
    {od1 an1 od2 an2 od3 an3 od4 an4 od5 an5 od6 an6 od7 an7 od8 an8 od9 an9 od10 an10 od11 an11 od12 an12 od13 an13 od14 an14 od15 an15 od16 an16 od17 an17 od18 an18 od19 an19 od20 an20 : Option Addr} {sl1 sl2 sl3 sl4 sl5 sl6 sl7 sl8 sl9 sl10 sl11 sl12 sl13 sl14 sl15 sl16 sl17 sl18 sl19 sl20 : Array (Option Value)} {oc1 kV1 dc1 pm1 cd1 ct1 oc2 kV2 dc2 pm2 cd2 ct2 oc3 kV3 dc3 pm3 cd3 ct3 oc4 kV4 dc4 pm4 cd4 ct4 oc5 kV5 dc5 pm5 cd5 ct5 oc6 kV6 dc6 pm6 cd6 ct6 oc7 kV7 dc7 pm7 cd7 ct7 oc8 kV8 dc8 pm8 cd8 ct8 oc9 kV9 dc9 pm9 cd9 ct9 oc10 kV10 dc10 pm10 cd10 ct10 oc11 kV11 dc11 pm11 cd11 ct11 oc12 kV12 dc12 pm12 cd12 ct12 oc13 kV13 dc13 pm13 cd13 ct13 oc14 kV14 dc14 pm14 cd14 ct14 oc15 kV15 dc15 pm15 cd15 ct15 oc16 kV16 dc16 pm16 cd16 ct16 oc17 kV17 dc17 pm17 cd17 ct17 oc18 kV18 dc18 pm18 cd18 ct18 oc19 kV19 dc19 pm19 cd19 ct19 oc20 kV20 dc20 pm20 cd20 ct20 : Value}
    (a1 : PySem.W.nsIn K mainGlobals "is_whole" = some (some (.ref f1))) (l1 : K.lookup f1 = some ⟨oc1, od1, .func (PySem.W.fnOf "is_whole" "is_whole" (defArgs sis_whole) (defBody sis_whole) (defScope sis_whole) .none kV1 dc1 pm1 an1 cd1 ct1), sl1⟩) (c1 : PySem.W.codeIn K cd1 "is_whole" = true) (k1 : PySem.W.keepIn K (.ref f1) = true)
    (a2 : PySem.W.nsIn K mainGlobals "is_number" = some (some (.ref f2))) (l2 : K.lookup f2 = some ⟨oc2, od2, .func (PySem.W.fnOf "is_number" "is_number" (defArgs sis_number) (defBody sis_number) (defScope sis_number) .none kV2 dc2 pm2 an2 cd2 ct2), sl2⟩) (c2 : PySem.W.codeIn K cd2 "is_number" = true) (k2 : PySem.W.keepIn K (.ref f2) = true)
    (a3 : PySem.W.nsIn K mainGlobals "is_row" = some (some (.ref f3))) (l3 : K.lookup f3 = some ⟨oc3, od3, .func (PySem.W.fnOf "is_row" "is_row" (defArgs sis_row) (defBody sis_row) (defScope sis_row) .none kV3 dc3 pm3 an3 cd3 ct3), sl3⟩) (c3 : PySem.W.codeIn K cd3 "is_row" = true) (k3 : PySem.W.keepIn K (.ref f3) = true)
    (a4 : PySem.W.nsIn K mainGlobals "is_name" = some (some (.ref f4))) (l4 : K.lookup f4 = some ⟨oc4, od4, .func (PySem.W.fnOf "is_name" "is_name" (defArgs sis_name) (defBody sis_name) (defScope sis_name) .none kV4 dc4 pm4 an4 cd4 ct4), sl4⟩) (c4 : PySem.W.codeIn K cd4 "is_name" = true) (k4 : PySem.W.keepIn K (.ref f4) = true)
    (a5 : PySem.W.nsIn K mainGlobals "is_set" = some (some (.ref f5))) (l5 : K.lookup f5 = some ⟨oc5, od5, .func (PySem.W.fnOf "is_set" "is_set" (defArgs sis_set) (defBody sis_set) (defScope sis_set) .none kV5 dc5 pm5 an5 cd5 ct5), sl5⟩) (c5 : PySem.W.codeIn K cd5 "is_set" = true) (k5 : PySem.W.keepIn K (.ref f5) = true)
    (a6 : PySem.W.nsIn K mainGlobals "are_names" = some (some (.ref f6))) (l6 : K.lookup f6 = some ⟨oc6, od6, .func (PySem.W.fnOf "are_names" "are_names" (defArgs sare_names) (defBody sare_names) (defScope sare_names) .none kV6 dc6 pm6 an6 cd6 ct6), sl6⟩) (c6 : PySem.W.codeIn K cd6 "are_names" = true) (k6 : PySem.W.keepIn K (.ref f6) = true)
    (a7 : PySem.W.nsIn K mainGlobals "is_machine" = some (some (.ref f7))) (l7 : K.lookup f7 = some ⟨oc7, od7, .func (PySem.W.fnOf "is_machine" "is_machine" (defArgs sis_machine) (defBody sis_machine) (defScope sis_machine) .none kV7 dc7 pm7 an7 cd7 ct7), sl7⟩) (c7 : PySem.W.codeIn K cd7 "is_machine" = true) (k7 : PySem.W.keepIn K (.ref f7) = true)
    (a8 : PySem.W.nsIn K mainGlobals "machine_text" = some (some (.ref f8))) (l8 : K.lookup f8 = some ⟨oc8, od8, .func (PySem.W.fnOf "machine_text" "machine_text" (defArgs smachine_text) (defBody smachine_text) (defScope smachine_text) .none kV8 dc8 pm8 an8 cd8 ct8), sl8⟩) (c8 : PySem.W.codeIn K cd8 "machine_text" = true) (k8 : PySem.W.keepIn K (.ref f8) = true)
    (a9 : PySem.W.nsIn K mainGlobals "read_line" = some (some (.ref f9))) (l9 : K.lookup f9 = some ⟨oc9, od9, .func (PySem.W.fnOf "read_line" "read_line" (defArgs sread_line) (defBody sread_line) (defScope sread_line) .none kV9 dc9 pm9 an9 cd9 ct9), sl9⟩) (c9 : PySem.W.codeIn K cd9 "read_line" = true) (k9 : PySem.W.keepIn K (.ref f9) = true)
    (a10 : PySem.W.nsIn K mainGlobals "read_machine" = some (some (.ref f10))) (l10 : K.lookup f10 = some ⟨oc10, od10, .func (PySem.W.fnOf "read_machine" "read_machine" (defArgs sread_machine) (defBody sread_machine) (defScope sread_machine) .none kV10 dc10 pm10 an10 cd10 ct10), sl10⟩) (c10 : PySem.W.codeIn K cd10 "read_machine" = true) (k10 : PySem.W.keepIn K (.ref f10) = true)
    (a11 : PySem.W.nsIn K mainGlobals "_law_pool" = some (some (.ref f11))) (l11 : K.lookup f11 = some ⟨oc11, od11, .func (PySem.W.fnOf "_law_pool" "_law_pool" (defArgs s_law_pool) (defBody s_law_pool) (defScope s_law_pool) .none kV11 dc11 pm11 an11 cd11 ct11), sl11⟩) (c11 : PySem.W.codeIn K cd11 "_law_pool" = true) (k11 : PySem.W.keepIn K (.ref f11) = true)
    (a12 : PySem.W.nsIn K mainGlobals "_law_draw" = some (some (.ref f12))) (l12 : K.lookup f12 = some ⟨oc12, od12, .func (PySem.W.fnOf "_law_draw" "_law_draw" (defArgs s_law_draw) (defBody s_law_draw) (defScope s_law_draw) .none kV12 dc12 pm12 an12 cd12 ct12), sl12⟩) (c12 : PySem.W.codeIn K cd12 "_law_draw" = true) (k12 : PySem.W.keepIn K (.ref f12) = true)
    (a13 : PySem.W.nsIn K mainGlobals "_law_name" = some (some (.ref f13))) (l13 : K.lookup f13 = some ⟨oc13, od13, .func (PySem.W.fnOf "_law_name" "_law_name" (defArgs s_law_name) (defBody s_law_name) (defScope s_law_name) .none kV13 dc13 pm13 an13 cd13 ct13), sl13⟩) (c13 : PySem.W.codeIn K cd13 "_law_name" = true) (k13 : PySem.W.keepIn K (.ref f13) = true)
    (a14 : PySem.W.nsIn K mainGlobals "_law_names" = some (some (.ref f14))) (l14 : K.lookup f14 = some ⟨oc14, od14, .func (PySem.W.fnOf "_law_names" "_law_names" (defArgs s_law_names) (defBody s_law_names) (defScope s_law_names) .none kV14 dc14 pm14 an14 cd14 ct14), sl14⟩) (c14 : PySem.W.codeIn K cd14 "_law_names" = true) (k14 : PySem.W.keepIn K (.ref f14) = true)
    (a15 : PySem.W.nsIn K mainGlobals "_law_machine" = some (some (.ref f15))) (l15 : K.lookup f15 = some ⟨oc15, od15, .func (PySem.W.fnOf "_law_machine" "_law_machine" (defArgs s_law_machine) (defBody s_law_machine) (defScope s_law_machine) .none kV15 dc15 pm15 an15 cd15 ct15), sl15⟩) (c15 : PySem.W.codeIn K cd15 "_law_machine" = true) (k15 : PySem.W.keepIn K (.ref f15) = true)
    (a16 : PySem.W.nsIn K mainGlobals "_law_great_machine" = some (some (.ref f16))) (l16 : K.lookup f16 = some ⟨oc16, od16, .func (PySem.W.fnOf "_law_great_machine" "_law_great_machine" (defArgs s_law_great_machine) (defBody s_law_great_machine) (defScope s_law_great_machine) .none kV16 dc16 pm16 an16 cd16 ct16), sl16⟩) (c16 : PySem.W.codeIn K cd16 "_law_great_machine" = true) (k16 : PySem.W.keepIn K (.ref f16) = true)
    (a17 : PySem.W.nsIn K mainGlobals "_law_same" = some (some (.ref f17))) (l17 : K.lookup f17 = some ⟨oc17, od17, .func (PySem.W.fnOf "_law_same" "_law_same" (defArgs s_law_same) (defBody s_law_same) (defScope s_law_same) .none kV17 dc17 pm17 an17 cd17 ct17), sl17⟩) (c17 : PySem.W.codeIn K cd17 "_law_same" = true) (k17 : PySem.W.keepIn K (.ref f17) = true)
    (a18 : PySem.W.nsIn K mainGlobals "_law_line" = some (some (.ref f18))) (l18 : K.lookup f18 = some ⟨oc18, od18, .func (PySem.W.fnOf "_law_line" "_law_line" (defArgs s_law_line) (defBody s_law_line) (defScope s_law_line) .none kV18 dc18 pm18 an18 cd18 ct18), sl18⟩) (c18 : PySem.W.codeIn K cd18 "_law_line" = true) (k18 : PySem.W.keepIn K (.ref f18) = true)
    (a19 : PySem.W.nsIn K mainGlobals "_law_machine_text" = some (some (.ref f19))) (l19 : K.lookup f19 = some ⟨oc19, od19, .func (PySem.W.fnOf "_law_machine_text" "_law_machine_text" (defArgs s_law_machine_text) (defBody s_law_machine_text) (defScope s_law_machine_text) .none kV19 dc19 pm19 an19 cd19 ct19), sl19⟩) (c19 : PySem.W.codeIn K cd19 "_law_machine_text" = true) (k19 : PySem.W.keepIn K (.ref f19) = true)
    (a20 : PySem.W.nsIn K mainGlobals "law" = some (some (.ref f20))) (l20 : K.lookup f20 = some ⟨oc20, od20, .func (PySem.W.fnOf "law" "law" (defArgs slaw) (defBody slaw) (defScope slaw) .none kV20 dc20 pm20 an20 cd20 ct20), sl20⟩) (c20 : PySem.W.codeIn K cd20 "law" = true) (k20 : PySem.W.keepIn K (.ref f20) = true)
    (z_ValueError : PySem.W.nsIn K mainGlobals "ValueError" = some none)
    (z_len : PySem.W.nsIn K mainGlobals "len" = some none)
    (z_zip : PySem.W.nsIn K mainGlobals "zip" = some none)
    (z_range : PySem.W.nsIn K mainGlobals "range" = some none)
    (z_isinstance : PySem.W.nsIn K mainGlobals "isinstance" = some none)
    (z_tuple : PySem.W.nsIn K mainGlobals "tuple" = some none)
    (z_bool : PySem.W.nsIn K mainGlobals "bool" = some none)
    (z_int : PySem.W.nsIn K mainGlobals "int" = some none)
    (z_str : PySem.W.nsIn K mainGlobals "str" = some none)
    (z_sorted : PySem.W.nsIn K mainGlobals "sorted" = some none)
    (z_list : PySem.W.nsIn K mainGlobals "list" = some none)
    {aWORDS : Addr} {odWORDS : Option Addr} {itsWORDS : Array Value} {nWORDS : Nat} {slWORDS : Array (Option Value)} (gWORDS : PySem.W.nsIn K mainGlobals "WORDS" = some (some (.ref aWORDS))) (lWORDS : K.lookup aWORDS = some ⟨.type "tuple", odWORDS, .seq itsWORDS nWORDS, slWORDS⟩) (sWORDS : itsWORDS.size ≤ sizeLine) (vWORDS : Vals (wordsL.map V.str) itsWORDS.toList)
    {uLETTERS : Value} (gLETTERS : PySem.W.nsIn K mainGlobals "LETTERS" = some (some uLETTERS)) (rLETTERS : RelV (.str lettersS) uLETTERS)
    {xcNoText : Addr} (gXNoText : PySem.W.nsIn K mainGlobals "NoText" = some (some (.ref xcNoText))) (kXNoText : PySem.W.keepIn K (.ref xcNoText) = true) (bXNoText : PySem.W.subIn K (.ref xcNoText) (.type "BaseException") = some true) (tXNoText : PySem.W.typeIn K (.ref xcNoText) = some (.type "type")) (hXNoText : PySem.W.hasDictIn K xcNoText = true)
    (eX : PySem.W.excIn K xcNoText [.type "ValueError", .type "Exception", .type "BaseException", .type "object"] "ValueError.__new__" = true)
    (e1 : PySem.W.findIn K (.ref xcNoText) "__getattribute__" = some (some (.builtin "BaseException.__getattribute__")))
    (e2 : PySem.W.findIn K (.ref xcNoText) "__getattr__" = some none)
    (e3 : PySem.W.findIn K (.ref xcNoText) "__class__" = some (some (.builtin "object.__class__")))
    (e4 : PySem.W.specialIn K (.builtin "object.__class__") "__get__" = some (some (.builtin "getset_descriptor.__get__")))
    (e5 : PySem.W.takesIn K (.builtin "object.__class__") = some true)
    (e6 : PySem.W.mroIn K xcNoText (.type "object") = some true)
    (e7 : PySem.W.subIn K (.ref xcNoText) (.ref xcNoText) = some true)
    (e8 : PySem.W.subIn K (.ref xcNoText) (.type "ValueError") = some true)
    : ∃ fd : FuncData, (∀ (s : Shared) (v : Value), BindsTo s fd ⟨[v], []⟩ [("_law_script", v)]) ∧ ∀ base : Heap, K.In base → base.Ns mainGlobals mg → FnOk l.prog w K mg base CX0 6 fa fd ["_law_script"] (spLaw K) := by
  have e := hfa.symm.trans (PySem.W.mg_of X G a20)
  cases e
  have F1 := fun_mk (st := sis_whole) l1 c1 k1
  have F2 := fun_mk (st := sis_number) l2 c2 k2
  have F3 := fun_mk (st := sis_row) l3 c3 k3
  have F4 := fun_mk (st := sis_name) l4 c4 k4
  have F5 := fun_mk (st := sis_set) l5 c5 k5
  have F6 := fun_mk (st := sare_names) l6 c6 k6
  have F7 := fun_mk (st := sis_machine) l7 c7 k7
  have F8 := fun_mk (st := smachine_text) l8 c8 k8
  have F9 := fun_mk (st := sread_line) l9 c9 k9
  have F10 := fun_mk (st := sread_machine) l10 c10 k10
  have F11 := fun_mk (st := s_law_pool) l11 c11 k11
  have F12 := fun_mk (st := s_law_draw) l12 c12 k12
  have F13 := fun_mk (st := s_law_name) l13 c13 k13
  have F14 := fun_mk (st := s_law_names) l14 c14 k14
  have F15 := fun_mk (st := s_law_machine) l15 c15 k15
  have F16 := fun_mk (st := s_law_great_machine) l16 c16 k16
  have F17 := fun_mk (st := s_law_same) l17 c17 k17
  have F18 := fun_mk (st := s_law_line) l18 c18 k18
  have F19 := fun_mk (st := s_law_machine_text) l19 c19 k19
  have F20 := fun_mk (st := slaw) l20 c20 k20
  have b1 := F1.binds (ps := ["thing"]) fun _ _ _ _ _ _ us hl => match us, hl with | [_], _ => rfl
  have b2 := F2.binds (ps := ["thing", "low", "high"]) fun _ _ _ _ _ _ us hl => match us, hl with | [_, _, _], _ => rfl
  have b3 := F3.binds (ps := ["thing", "least", "most"]) fun _ _ _ _ _ _ us hl => match us, hl with | [_, _, _], _ => rfl
  have b4 := F4.binds (ps := ["thing"]) fun _ _ _ _ _ _ us hl => match us, hl with | [_], _ => rfl
  have b5 := F5.binds (ps := ["thing", "many"]) fun _ _ _ _ _ _ us hl => match us, hl with | [_, _], _ => rfl
  have b6 := F6.binds (ps := ["thing", "most"]) fun _ _ _ _ _ _ us hl => match us, hl with | [_, _], _ => rfl
  have b7 := F7.binds (ps := ["thing"]) fun _ _ _ _ _ _ us hl => match us, hl with | [_], _ => rfl
  have b8 := F8.binds (ps := ["machine"]) fun _ _ _ _ _ _ us hl => match us, hl with | [_], _ => rfl
  have b9 := F9.binds (ps := ["line", "places"]) fun _ _ _ _ _ _ us hl => match us, hl with | [_, _], _ => rfl
  have b10 := F10.binds (ps := ["text"]) fun _ _ _ _ _ _ us hl => match us, hl with | [_], _ => rfl
  have b11 := F11.binds (ps := ["_law_script"]) fun _ _ _ _ _ _ us hl => match us, hl with | [_], _ => rfl
  have b12 := F12.binds (ps := ["_law_pool_here", "_law_many"]) fun _ _ _ _ _ _ us hl => match us, hl with | [_, _], _ => rfl
  have b13 := F13.binds (ps := ["_law_pool_here", "_law_start", "_law_taken"]) fun _ _ _ _ _ _ us hl => match us, hl with | [_, _, _], _ => rfl
  have b14 := F14.binds (ps := ["_law_pool_here", "_law_many"]) fun _ _ _ _ _ _ us hl => match us, hl with | [_, _], _ => rfl
  have b15 := F15.binds (ps := ["_law_pool_here", "_law_names_here", "_law_most"]) fun _ _ _ _ _ _ us hl => match us, hl with | [_, _, _], _ => rfl
  have b16 := F16.binds (ps := ["_law_pool_here", "_law_names_here"]) fun _ _ _ _ _ _ us hl => match us, hl with | [_, _], _ => rfl
  have b17 := F17.binds (ps := ["_law_found", "_law_due"]) fun _ _ _ _ _ _ us hl => match us, hl with | [_, _], _ => rfl
  have b18 := F18.binds (ps := ["_law_onto", "_law_names_here"]) fun _ _ _ _ _ _ us hl => match us, hl with | [_, _], _ => rfl
  have b19 := F19.binds (ps := ["_law_machine_here"]) fun _ _ _ _ _ _ us hl => match us, hl with | [_], _ => rfl
  have T : Bi mg := ⟨PySem.W.mg_none_of X G z_ValueError, PySem.W.mg_none_of X G z_len, PySem.W.mg_none_of X G z_zip, PySem.W.mg_none_of X G z_range, PySem.W.mg_none_of X G z_isinstance, PySem.W.mg_none_of X G z_tuple, PySem.W.mg_none_of X G z_bool, PySem.W.mg_none_of X G z_int, PySem.W.mg_none_of X G z_str, PySem.W.mg_none_of X G z_sorted, PySem.W.mg_none_of X G z_list⟩
  let S : XOne K mg "NoText" := ⟨xcNoText, ⟨PySem.W.mg_of X G gXNoText, kXNoText, bXNoText, tXNoText, hXNoText⟩, ⟨eX, ⟨e1, e2, bXNoText, hXNoText, e3, e4, e5, e6⟩, e7, e8⟩⟩
  have W : Wd K mg := ⟨aWORDS, uLETTERS, PySem.W.mg_of X G gWORDS, rfl, fun _ => .inr ⟨_, _, _, lWORDS, rfl, rfl, sWORDS, vWORDS⟩, PySem.W.mg_of X G gLETTERS, rLETTERS⟩
  refine ⟨PySem.W.fnOf "law" "law" (defArgs slaw) (defBody slaw) (defScope slaw) .none kV20 dc20 pm20 an20 cd20 ct20, fun s v => .of_eq rfl, fun base _ _ => ?_⟩
  have cis_whole : Cal l.prog w K mg base 1 "is_whole" ["thing"] spWhole := ⟨f1, _, ok_whole F1 T, PySem.W.mg_of X G a1, F1.kp, b1⟩
  have cis_number : Cal l.prog w K mg base 2 "is_number" ["thing", "low", "high"] spNumber := ⟨f2, _, ok_number F2 T cis_whole, PySem.W.mg_of X G a2, F2.kp, b2⟩
  have cis_row : Cal l.prog w K mg base 1 "is_row" ["thing", "least", "most"] (spRow K) := ⟨f3, _, ok_row F3 T, PySem.W.mg_of X G a3, F3.kp, b3⟩
  have cis_name : Cal l.prog w K mg base 1 "is_name" ["thing"] spName := ⟨f4, _, ok_name F4 T W, PySem.W.mg_of X G a4, F4.kp, b4⟩
  have cis_set : Cal l.prog w K mg base 3 "is_set" ["thing", "many"] (spSet K) := ⟨f5, _, ok_set F5 cis_row cis_number, PySem.W.mg_of X G a5, F5.kp, b5⟩
  have care_names : Cal l.prog w K mg base 2 "are_names" ["thing", "most"] (spNames K) := ⟨f6, _, ok_names F6 cis_row cis_name, PySem.W.mg_of X G a6, F6.kp, b6⟩
  have cis_machine : Cal l.prog w K mg base 4 "is_machine" ["thing"] (spMachine K) := ⟨f7, _, ok_machine F7 T cis_row cis_set care_names, PySem.W.mg_of X G a7, F7.kp, b7⟩
  have cmachine_text : Cal l.prog w K mg base 1 "machine_text" ["machine"] (spMT K) := ⟨f8, _, ok_mt F8 T, PySem.W.mg_of X G a8, F8.kp, b8⟩
  have cread_line : CalX l.prog w K mg base 1 "read_line" ["line", "places"] (spRL K) := ⟨f9, _, ok_rl F9 T S, PySem.W.mg_of X G a9, F9.kp, b9⟩
  have cread_machine : CalX l.prog w K mg base 5 "read_machine" ["text"] (spRM K) := ⟨f10, _, ok_rm F10 T S cis_machine cread_line, PySem.W.mg_of X G a10, F10.kp, b10⟩
  have c_law_pool : Cal l.prog w K mg base 1 "_law_pool" ["_law_script"] (spPool K) := ⟨f11, _, ok_pool F11 , PySem.W.mg_of X G a11, F11.kp, b11⟩
  have c_law_draw : Cal l.prog w K mg base 1 "_law_draw" ["_law_pool_here", "_law_many"] spDraw := ⟨f12, _, ok_draw F12 T, PySem.W.mg_of X G a12, F12.kp, b12⟩
  have c_law_name : Cal l.prog w K mg base 2 "_law_name" ["_law_pool_here", "_law_start", "_law_taken"] spLName := ⟨f13, _, ok_lname F13 T c_law_draw, PySem.W.mg_of X G a13, F13.kp, b13⟩
  have c_law_names : Cal l.prog w K mg base 3 "_law_names" ["_law_pool_here", "_law_many"] spLNames := ⟨f14, _, ok_lnames F14 T c_law_draw c_law_name, PySem.W.mg_of X G a14, F14.kp, b14⟩
  have c_law_machine : Cal l.prog w K mg base 2 "_law_machine" ["_law_pool_here", "_law_names_here", "_law_most"] (spLMach K) := ⟨f15, _, ok_lmach F15 T c_law_draw, PySem.W.mg_of X G a15, F15.kp, b15⟩
  have c_law_great_machine : Cal l.prog w K mg base 2 "_law_great_machine" ["_law_pool_here", "_law_names_here"] (spGreat K) := ⟨f16, _, ok_great F16 T c_law_draw, PySem.W.mg_of X G a16, F16.kp, b16⟩
  have c_law_same : Cal l.prog w K mg base 5 "_law_same" ["_law_found", "_law_due"] (spSM K) := ⟨f17, _, ok_same5 F17 T (PySem.W.mg_of X G a17) F17.kp b17, PySem.W.mg_of X G a17, F17.kp, b17⟩
  have c_law_line : Cal l.prog w K mg base 1 "_law_line" ["_law_onto", "_law_names_here"] (spLL K) := ⟨f18, _, ok_ll F18 T, PySem.W.mg_of X G a18, F18.kp, b18⟩
  have c_law_machine_text : Cal l.prog w K mg base 2 "_law_machine_text" ["_law_machine_here"] (spMT K) := ⟨f19, _, ok_lmt F19 T c_law_line, PySem.W.mg_of X G a19, F19.kp, b19⟩
  exact ok_law F20 T c_law_pool c_law_draw c_law_names c_law_machine c_law_great_machine cmachine_text c_law_machine_text cread_machine c_law_same
end Fx
open PySem PySem.W PyProof.Rows
set_option maxHeartbeats 0 in
theorem PySem.Challenge.cw_fairtrees_k18_whole_texts_of_machines_holds : PySem.Challenge.rw_fairtrees_k18_whole_texts_of_machines.Holds := by
  w_on; o_law; k_head; (case hw => w_witness2)
  k_fill
  refine L2.walk_of (l := PySem.Challenge.rw_fairtrees_k18_whole_texts_of_machines) (n := 63) (k := 6) (x := "_law_script") (CX := fun _ => L2.CX0) (sp := fun w => Fx.spLaw _) rfl (by decide) rfl ⟨rfl, by decide, by decide⟩ (fun w h Y => PySem.W.kIn_of Y) ?F (fun _ _ a ns hl _ hS => ⟨a, ns, rfl, hS, hl, fun _ => rfl⟩) (fun _ _ _ _ _ h => h)
  case F =>
    intro w mg fa h KX G hmg
    refine' Fx.all_mk KX G hmg ?a1 ?l1 ?c1 ?k1 ?a2 ?l2 ?c2 ?k2 ?a3 ?l3 ?c3 ?k3 ?a4 ?l4 ?c4 ?k4 ?a5 ?l5 ?c5 ?k5 ?a6 ?l6 ?c6 ?k6 ?a7 ?l7 ?c7 ?k7 ?a8 ?l8 ?c8 ?k8 ?a9 ?l9 ?c9 ?k9 ?a10 ?l10 ?c10 ?k10 ?a11 ?l11 ?c11 ?k11 ?a12 ?l12 ?c12 ?k12 ?a13 ?l13 ?c13 ?k13 ?a14 ?l14 ?c14 ?k14 ?a15 ?l15 ?c15 ?k15 ?a16 ?l16 ?c16 ?k16 ?a17 ?l17 ?c17 ?k17 ?a18 ?l18 ?c18 ?k18 ?a19 ?l19 ?c19 ?k19 ?a20 ?l20 ?c20 ?k20 ?z_ValueError ?z_len ?z_zip ?z_range ?z_isinstance ?z_tuple ?z_bool ?z_int ?z_str ?z_sorted ?z_list ?gWORDS ?lWORDS ?sWORDS ?vWORDS ?gLETTERS ?rLETTERS ?gXNoText ?kXNoText ?bXNoText ?tXNoText ?hXNoText ?eX ?e1 ?e2 ?e3 ?e4 ?e5 ?e6 ?e7 ?e8
    (case a1 => k_is); (case l1 => k_is); (case c1 => k_is); (case k1 => k_is); (case a2 => k_is); (case l2 => k_is); (case c2 => k_is); (case k2 => k_is); (case a3 => k_is); (case l3 => k_is); (case c3 => k_is); (case k3 => k_is); (case a4 => k_is); (case l4 => k_is); (case c4 => k_is); (case k4 => k_is); (case a5 => k_is); (case l5 => k_is); (case c5 => k_is); (case k5 => k_is); (case a6 => k_is); (case l6 => k_is); (case c6 => k_is); (case k6 => k_is); (case a7 => k_is); (case l7 => k_is); (case c7 => k_is); (case k7 => k_is); (case a8 => k_is); (case l8 => k_is); (case c8 => k_is); (case k8 => k_is); (case a9 => k_is); (case l9 => k_is); (case c9 => k_is); (case k9 => k_is); (case a10 => k_is); (case l10 => k_is); (case c10 => k_is); (case k10 => k_is); (case a11 => k_is); (case l11 => k_is); (case c11 => k_is); (case k11 => k_is); (case a12 => k_is); (case l12 => k_is); (case c12 => k_is); (case k12 => k_is); (case a13 => k_is); (case l13 => k_is); (case c13 => k_is); (case k13 => k_is); (case a14 => k_is); (case l14 => k_is); (case c14 => k_is); (case k14 => k_is); (case a15 => k_is); (case l15 => k_is); (case c15 => k_is); (case k15 => k_is); (case a16 => k_is); (case l16 => k_is); (case c16 => k_is); (case k16 => k_is); (case a17 => k_is); (case l17 => k_is); (case c17 => k_is); (case k17 => k_is); (case a18 => k_is); (case l18 => k_is); (case c18 => k_is); (case k18 => k_is); (case a19 => k_is); (case l19 => k_is); (case c19 => k_is); (case k19 => k_is); (case a20 => k_is); (case l20 => k_is); (case c20 => k_is); (case k20 => k_is); (case z_ValueError => k_is); (case z_len => k_is); (case z_zip => k_is); (case z_range => k_is); (case z_isinstance => k_is); (case z_tuple => k_is); (case z_bool => k_is); (case z_int => k_is); (case z_str => k_is); (case z_sorted => k_is); (case z_list => k_is); (case gWORDS => k_is); (case lWORDS => k_is); (case gLETTERS => k_is); (case gXNoText => k_is); (case kXNoText => k_is); (case bXNoText => k_is); (case tXNoText => k_is); (case hXNoText => k_is)
    (case sWORDS => decide)
    (case vWORDS => repeat (first | exact .nil | refine .cons ⟨_, rfl⟩ ?_))
    (case rLETTERS => exact ⟨_, rfl⟩)
    (case eX => k_exc)
    (case e1 => first | rfl | k_is)
    (case e2 => first | rfl | k_is)
    (case e3 => first | rfl | k_is)
    (case e4 => first | rfl | k_is)
    (case e5 => first | rfl | k_is)
    (case e6 => first | rfl | k_is)
    (case e7 => first | rfl | k_is)
    (case e8 => first | rfl | k_is)
