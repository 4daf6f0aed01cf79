import PyProof.Rows.All
import Wide.All
import OpenK.AllK
import Wide.FinOn
import HandS.ForMost
import HandS.TupAny
import HandS.TupMul
import HandS.IsInst
import HandS.TupLe
import HandS.DictComp
import PyProof.SeqIndex
import HandS.Conv
import HandS.Walk
import HandS.Evl
import KE.GoesMore
import PyProof.Draws
import PyProof.CollectIter
import PyProof.WalksMore
import PyProof.TupleOfSeq
import PyProof.DictMoreH
import HandS.DictTup
import HandS.TupLen
import HandS.Replace
import HandS.ReplaceLit
import HandS.Zip
import HandS.DictComp
import KE.KxIndex
import KE.KDictList
import HandS.Defaults
import HandS.MakeKwOnly
import HandS.Deep
import HandS.WordsExc
import HandS.ExcOwn
import HandS.TryOnly
import HandS.ExcIs
import HandS.SetKeys
import HandS.SetBool
import HandS.Style
import HandS.Text
import PySem.Challenge.RW_fairtrees_k11_whole_walks_of_commands
set_option Elab.async false
set_option linter.all false
set_option maxRecDepth 100000
set_option maxHeartbeats 4000000
namespace Fx
open PySem PySem.Spec PyProof.Rows L2
def topS (i : Nat) : Stmt := PySem.Challenge.pw_fairtrees_k11_whole_walks_of_commands.main.body.getD i (.Pass ⟨0, 0, 0, 0⟩)

/-! ### heaps, data, the pool of draws -/
/-- a def of the text as its callers see it -/
structure Cal (P : Program) (w : World) (K : PySem.W.Frag) (mg : Str → Option Value) (base : Heap) (k : Nat) (x : Str) (ps : List Str) (sp : Sp) where
  f : Addr
  fd : FuncData
  G : FnOk P w K mg base CX0 k f fd ps sp
  g : mg x = some (.ref f)
  kp : PySem.W.keepIn K (.ref f) = true
  b : Binds K fd ps []
theorem same_upd {H : Hp} {p : Addr} {o : HO} (h : H p = none) : Same H (upd H p o) := fun b x e => by
  rw [upd_ne (ne_of_none e h)]
  exact e
/-- an object that H does not know may change -/
theorem smut {H H' : Hp} {p : Addr} {o : HO} (e : Same H H') (h : H p = none) : Same H (upd H' p o) := fun a u ha => by
  rw [upd_ne (ne_of_none ha h)]
  exact e a u ha
/-- all tuples stand -/
def Imm (H H' : Hp) : Prop := ∀ a xs, Rd H a (.tup xs) → Rd H' a (.tup xs)
theorem Imm.refl (H : Hp) : Imm H H := fun _ _ h => h
theorem Imm.trans {H H1 H2 : Hp} (a : Imm H H1) (b : Imm H1 H2) : Imm H H2 := fun x xs h => b x xs (a x xs h)
theorem simm {H H' : Hp} (e : Same H H') : Imm H H' := fun a xs h => by
  rcases h with h | ⟨o, h⟩
  · exact .inl (e _ _ h)
  · exact .inr ⟨o, e _ _ h⟩
theorem Imm.sq {K : PySem.W.Frag} {H H' : Hp} {a : Addr} {xs : List V} (e : Imm H H') (h : SqT K H a xs) : SqT K H' a xs := by
  rcases h with h | h
  · exact .inl (e _ _ h)
  · exact .inr h
theorem ssqt {K : PySem.W.Frag} {H H' : Hp} {a : Addr} {xs : List V} (e : Same H H') (h : SqT K H a xs) : SqT K H' a xs := (simm e).sq h
/-- a list that changes is no tuple -/
theorem Imm.list {H : Hp} {p : Addr} {xs : List V} {o : HO} (h : H p = some (.lst xs)) : Imm H (upd H p o) := fun a ys e => by
  rcases e with e | ⟨u, e⟩
  · exact .inl (by rw [upd_ne (ne_of h e (by intro q; cases q)).symm]; exact e)
  · exact .inr ⟨u, by rw [upd_ne (ne_of h e (by intro q; cases q)).symm]; exact e⟩
theorem Imm.new {H : Hp} {p : Addr} {o : HO} (h : H p = none) : Imm H (upd H p o) := simm (same_upd h)
/-- a list of addresses, each a tuple of such things -/
inductive Each {α : Type} (R : Addr → α → Prop) : List Addr → List α → Prop where
  | nil : Each R [] []
  | cons {a : Addr} {as : List Addr} {x : α} {xs : List α} (h : R a x) (t : Each R as xs) : Each R (a :: as) (x :: xs)
theorem Each.imp {α : Type} {R S : Addr → α → Prop} (f : ∀ a x, R a x → S a x) : ∀ {as : List Addr} {xs : List α}, Each R as xs → Each S as xs
  | _, _, .nil => .nil
  | _, _, .cons h t => .cons (f _ _ h) (t.imp f)
theorem Each.len {α : Type} {R : Addr → α → Prop} : ∀ {as : List Addr} {xs : List α}, Each R as xs → as.length = xs.length
  | _, _, .nil => rfl
  | _, _, .cons _ t => by rw [List.length_cons, List.length_cons, t.len]
theorem Each.get {α : Type} {R : Addr → α → Prop} : ∀ {as : List Addr} {xs : List α} {i : Nat} {a : Addr}, Each R as xs → as[i]? = some a → ∃ x, xs[i]? = some x ∧ R a x
  | _, _, _, _, .nil, h => by simp at h
  | _, _, 0, _, .cons (x := x) r _, h => by
    have e := Option.some.inj h
    subst e
    exact ⟨x, rfl, r⟩
  | _, _, i + 1, _, .cons _ t, h => by
    obtain ⟨x, h1, h2⟩ := t.get (i := i) (by simpa using h)
    exact ⟨x, by simpa using h1, h2⟩
theorem Each.getx {α : Type} {R : Addr → α → Prop} : ∀ {as : List Addr} {xs : List α} {i : Nat} {x : α}, Each R as xs → xs[i]? = some x → ∃ a, as[i]? = some a ∧ R a x
  | _, _, _, _, .nil, h => by simp at h
  | _, _, 0, _, .cons (a := a) r _, h => by
    have e := Option.some.inj h
    subst e
    exact ⟨a, rfl, r⟩
  | _, _, i + 1, _, .cons _ t, h => by
    obtain ⟨x, h1, h2⟩ := t.getx (i := i) (by simpa using h)
    exact ⟨x, by simpa using h1, h2⟩
theorem Each.snoc {α : Type} {R : Addr → α → Prop} {a : Addr} {x : α} (r : R a x) : ∀ {as : List Addr} {xs : List α}, Each R as xs → Each R (as ++ [a]) (xs ++ [x])
  | _, _, .nil => .cons r .nil
  | _, _, .cons h t => .cons h (t.snoc r)
theorem map_get {α : Type} {f : α → V} {xs : List α} {i : Nat} {v : V} (h : (xs.map f)[i]? = some v) : ∃ x, xs[i]? = some x ∧ v = f x := by
  rw [List.getElem?_map] at h
  cases e : xs[i]? with
  | none =>
    rw [e] at h
    cases h
  | some x =>
    rw [e] at h
    exact ⟨x, rfl, (Option.some.inj h).symm⟩
theorem get_map {α : Type} {f : α → V} {xs : List α} {i : Nat} {x : α} (h : xs[i]? = some x) : (xs.map f)[i]? = some (f x) := by
  rw [List.getElem?_map, h]
  rfl
theorem notdec {p : Prop} [Decidable p] (h : (!decide p) = true) : ¬ p := by simpa using h
theorem dec_of {p : Prop} [Decidable p] (h : ¬ ((!decide p) = true)) : p := by simpa using h
theorem ixN_nat {n j : Nat} (hj : j < n) : ixN n (j : Int) = some j := by
  unfold ixN
  rw [if_pos (by omega), if_pos (by omega)]
  simp
theorem ixN0 {n : Nat} (h : 0 < n) : ixN n 0 = some 0 := ixN_nat (j := 0) h
theorem six0 {n : Nat} (h : 0 < n) : seqIndex? 0 n = some 0 := by
  unfold seqIndex?
  simp
  omega
theorem szOk {n : Nat} (h : n ≤ 100000) : n ≤ sizeLine := Nat.le_trans h (by decide)
theorem szLt {n : Nat} (h : n < 100000) : n < sizeLine := Nat.lt_of_lt_of_le h (by decide)
theorem ty_sqt {K : PySem.W.Frag} {H : Hp} {a : Addr} {xs : List V} (h : SqT K H a xs) : TyX K H (.ref a) (.type "tuple") := by
  rcases h with (h | ⟨o, h⟩) | ⟨o, its, n, hk, hc, _⟩
  · exact .base (.tup h)
  · exact .fTuple h
  · exact .kTuple hk hc
/-- the pool's addresses: itself, its great numbers, its small ones -/
structure PA where
  p : Addr
  g : Addr
  s : Addr
def Off (a : PA) (b : Addr) : Prop := b ≠ a.p ∧ b ≠ a.g ∧ b ≠ a.s
structure Pool (H : Hp) (a : PA) (c : Nat) : Prop where
  ex : ∃ (gs ss : List Int) (st ct : Int), H a.p = some (.lst [.ref a.g, .ref a.s, .int st, .int ct]) ∧ H a.g = some (.lst (gs.map V.int)) ∧ H a.s = some (.lst (ss.map V.int)) ∧
    gs.length ≤ 63 ∧ ss.length ≤ 63 ∧ 0 ≤ st ∧ st < 2147483647 ∧ 0 ≤ ct ∧ ct ≤ c ∧ a.s ≠ a.g
/-- all but the pool stands -/
def Kp (a : PA) (H H' : Hp) : Prop := ∀ b o, H b = some o → Off a b → H' b = some o
theorem Kp.refl {a : PA} (H : Hp) : Kp a H H := fun _ _ h _ => h
theorem Kp.trans {a : PA} {H H1 H2 : Hp} (x : Kp a H H1) (y : Kp a H1 H2) : Kp a H H2 := fun c o h n => y c o (x c o h n) n
theorem skp {a : PA} {H H' : Hp} (s : Same H H') : Kp a H H' := fun b o h _ => s b o h
theorem Kp.mut {a : PA} {H H' : Hp} {q : Addr} {o : HO} (e : Kp a H H') (h : H q = none) : Kp a H (upd H' q o) := fun b u hb n => by
  rw [upd_ne (ne_of_none hb h)]
  exact e b u hb n
theorem Kp.free {a : PA} {H H' : Hp} {l : Addr} (k : Kp a H H') (h : H' l = none) (n : Off a l) : H l = none := by
  cases e : H l with
  | none => rfl
  | some o =>
    rw [k l o e n] at h
    cases h
theorem Pool.mono {H : Hp} {a : PA} {c c' : Nat} (P : Pool H a c) (h : c ≤ c') : Pool H a c' := by
  obtain ⟨gs, ss, st, ct, a1, a2, a3, a4, a5, a6, a7, a8, a9, a10⟩ := P.ex
  exact ⟨gs, ss, st, ct, a1, a2, a3, a4, a5, a6, a7, a8, by omega, a10⟩
theorem Pool.same {H H' : Hp} {a : PA} {c : Nat} (P : Pool H a c) (e : Same H H') : Pool H' a c := by
  obtain ⟨gs, ss, st, ct, a1, a2, a3, a4, a5, a6, a7, a8, a9, a10⟩ := P.ex
  exact ⟨gs, ss, st, ct, e _ _ a1, e _ _ a2, e _ _ a3, a4, a5, a6, a7, a8, a9, a10⟩
theorem Pool.off {H : Hp} {a : PA} {b : Addr} {c : Nat} (P : Pool H a c) (h : H b = none) : Off a b := by
  obtain ⟨gs, ss, st, ct, a1, a2, a3, a4, a5, a6, a7, a8, a9, a10⟩ := P.ex
  exact ⟨(ne_of_none a1 h).symm, (ne_of_none a2 h).symm, (ne_of_none a3 h).symm⟩
/-- what is no list is none of the pool's -/
theorem Pool.offo {H : Hp} {a : PA} {b : Addr} {c : Nat} {o : HO} (P : Pool H a c) (h : H b = some o) (n : ∀ xs, o ≠ .lst xs) : Off a b := by
  obtain ⟨gs, ss, st, ct, a1, a2, a3, a4, a5, a6, a7, a8, a9, a10⟩ := P.ex
  exact ⟨(ne_of a1 h (n _).symm).symm, (ne_of a2 h (n _).symm).symm, (ne_of a3 h (n _).symm).symm⟩
theorem Pool.imm {H H' : Hp} {a : PA} {c : Nat} (P : Pool H a c) (k : Kp a H H') : Imm H H' := fun b xs h => by
  rcases h with h | ⟨o, h⟩
  · exact .inl (k _ _ h (P.offo h fun _ q => by cases q))
  · exact .inr ⟨o, k _ _ h (P.offo h fun _ q => by cases q)⟩
/-- an object beside the pool is laid or changed -/
theorem Pool.upd {H : Hp} {a : PA} {b : Addr} {c : Nat} {o : HO} (P : Pool H a c) (n : Off a b) : Pool (upd H b o) a c := by
  obtain ⟨gs, ss, st, ct, a1, a2, a3, a4, a5, a6, a7, a8, a9, a10⟩ := P.ex
  exact ⟨gs, ss, st, ct, by rw [upd_ne n.1.symm]; exact a1, by rw [upd_ne n.2.1.symm]; exact a2, by rw [upd_ne n.2.2.symm]; exact a3, a4, a5, a6, a7, a8, a9, a10⟩
/-! ### rules within a comprehension's block: the written part by its name -/
section
variable {X : Cx}
theorem ixL (K : PySem.W.Frag) (h : X.K = K := by rfl) : IxR X (rIxL K) := by subst h; exact ix_list
theorem ixT (K : PySem.W.Frag) (h : X.K = K := by rfl) : IxR X (rIxT K) := by subst h; exact ix_tup
theorem inS (K : PySem.W.Frag) (h : X.K = K := by rfl) : OpR X (compareOp .In) (rIn K false) := by subst h; exact op_in_seq
theorem ninS (K : PySem.W.Frag) (h : X.K = K := by rfl) : OpR X (compareOp .NotIn) (rIn K true) := by subst h; exact op_notIn_seq
theorem lenS (K : PySem.W.Frag) (h : X.K = K := by rfl) : CallR X (.builtin "len") (fun xs H Q => ∃ p ys, xs = [.ref p] ∧ (SqL K H p ys ∨ SqT K H p ys) ∧ Q (.int ys.length) H) := by subst h; exact call_len_seq
theorem isiK (K : PySem.W.Frag) (h : X.K = K := by rfl) : CallR X (.builtin "isinstance") (rIsi K) := by subst h; exact call_isi
theorem tupOf (K : PySem.W.Frag) (h : X.K = K := by rfl) : CallR X (.type "tuple") (fun xs H Q => ∃ p ys, xs = [.ref p] ∧ ((SqL K H p ys ∧ ∀ l, H l = none → Q (.ref l) (upd H l (.tup ys))) ∨ (SqT K H p ys ∧ Q (.ref p) H))) := by subst h; exact call_tuple_of
theorem slL (K : PySem.W.Frag) (h : X.K = K := by rfl) : SlR X (rSlL K) := by subst h; exact sl_list
theorem slA (K : PySem.W.Frag) (h : X.K = K := by rfl) : SlR X (rSlA K) := by subst h; exact sl_tupA
theorem catA (K : PySem.W.Frag) (h : X.K = K := by rfl) : OpR X (binaryOp .Add) (rCatA K) := by subst h; exact op_catA
theorem sortS (K : PySem.W.Frag) (h : X.K = K := by rfl) : CallR X (.builtin "sorted") (rSortedS K) := by subst h; exact cr_sortedS
theorem sortI (K : PySem.W.Frag) (h : X.K = K := by rfl) : CallR X (.builtin "sorted") (rSorted K) := by subst h; exact cr_sorted
end
/-! ### comprehensions: what holds of the list so far -/
section
variable {K : PySem.W.Frag}
/-- over a range, its turns drawing from the pool (k draws a turn) -/
theorem lc_rangeP {lo : Int} {n j : Nat} {tt : TT} {te : TE} {vs : List Nat} {σ : L2.St} {H1 : Hp} {D : Addr} {Qd : Hp → Prop} {a : PA} {c0 : Nat} (k : Nat) (ok : Nat → List V → Prop)
    (P0 : Pool H1 a c0) (hD : H1 D = none) (hn : n ≤ 100000) (h0 : ok 0 []) (hw : ∀ x, wipe ((wipe σ vs).set j (some x)) vs = wipe σ vs)
    (turn : ∀ (i : Nat) (H : Hp) (acc : List V), i < n → Pool H a (c0 + i * k) → Kp a H1 H → ok i acc → acc.length ≤ i → ∀ (N1 : V → Hp → Prop) (N2 : Hp → Prop),
      (∀ y H', Pool H' a (c0 + i * k + k) → Kp a H H' → ok (i + 1) (acc ++ [y]) → N1 y H') → (∀ H', Pool H' a (c0 + i * k + k) → Kp a H H' → ok (i + 1) acc → N2 H') →
      tt ((wipe σ vs).set j (some (.int (lo + i)))) H fun b H3 => if b = true then te ((wipe σ vs).set j (some (.int (lo + i)))) H3 N1 else N2 H3)
    (done : ∀ (H : Hp) (acc : List V), Pool H a (c0 + n * k) → Kp a H1 H → H D = some (.lst acc) → acc.length ≤ n → ok n acc → Off a D → Qd H) :
    ∃ W : Nat → Nat → Hp → Prop, (∃ m, W 0 m (upd H1 D (.lst []))) ∧ ∀ i m H, W i m H →
      ((Itr lo n).stop i H ∧ Qd H) ∨ ((Itr lo n).go i H ∧ ∃ Nx : Hp → Prop, (∀ H', Nx H' → ∃ m', m' < m ∧ W (i + 1) m' H') ∧ ∀ x H', (Itr lo n).yld i H x H' → (gName j) x (wipe σ vs) H' fun σ2 H2 => wipe σ2 vs = wipe σ vs ∧ tt σ2 H2 fun b H3 =>
        if b = true then te σ2 H3 fun y H4 => ∃ acc, H4 D = some (.lst acc) ∧ acc.length < sizeLine ∧ Nx (upd H4 D (.lst (acc ++ [y]))) else Nx H3) := by
  have oD : Off a D := P0.off hD
  refine lc_range (lo := lo) (n := n) (fun i H => ∃ acc, Pool H a (c0 + i * k) ∧ Kp a H1 H ∧ H D = some (.lst acc) ∧ acc.length ≤ i ∧ ok i acc) ⟨[], ?_, skp (same_upd hD), upd_same, Nat.le_refl _, h0⟩ (fun i H hi p => ?_) (fun H p => ?_)
  · rw [Nat.zero_mul]
    exact P0.upd oD
  · obtain ⟨acc, p1, p2, p3, p4, p5⟩ := p
    refine ⟨hw _, turn i H acc hi p1 p2 p5 p4 _ _ (fun y H' q1 q2 q3 => ⟨acc, q2 _ _ p3 oD, szLt (by omega), acc ++ [y], ?_, ?_, upd_same, ?_, q3⟩) (fun H' q1 q2 q3 => ⟨acc, ?_, p2.trans q2, q2 _ _ p3 oD, by omega, q3⟩)⟩
    · rw [Nat.succ_mul, ← Nat.add_assoc]
      exact q1.upd oD
    · exact Kp.mut (p2.trans q2) hD
    · rw [List.length_append]
      show acc.length + 1 ≤ i + 1
      omega
    · rw [Nat.succ_mul, ← Nat.add_assoc]
      exact q1
  · obtain ⟨acc, p1, p2, p3, p4, p5⟩ := p
    exact done H acc p1 p2 p3 p4 p5 oD
/-- over a walked thing, its turns changing nothing that stood -/
theorem lc_rangeS {lo : Int} {n j : Nat} {tt : TT} {te : TE} {vs : List Nat} {σ : L2.St} {H1 : Hp} {D : Addr} {Qd : Hp → Prop} (ok : Nat → List V → Prop)
    (hD : H1 D = none) (hn : n ≤ 100000) (h0 : ok 0 []) (hw : ∀ x, wipe ((wipe σ vs).set j (some x)) vs = wipe σ vs)
    (turn : ∀ (i : Nat) (H : Hp) (acc : List V), i < n → Same H1 H → ok i acc → acc.length ≤ i → ∀ (N1 : V → Hp → Prop) (N2 : Hp → Prop),
      (∀ y H', Same H H' → ok (i + 1) (acc ++ [y]) → N1 y H') → (∀ H', Same H H' → ok (i + 1) acc → N2 H') →
      tt ((wipe σ vs).set j (some (.int (lo + i)))) H fun b H3 => if b = true then te ((wipe σ vs).set j (some (.int (lo + i)))) H3 N1 else N2 H3)
    (done : ∀ (H : Hp) (acc : List V), Same H1 H → H D = some (.lst acc) → acc.length ≤ n → ok n acc → Qd H) :
    ∃ W : Nat → Nat → Hp → Prop, (∃ m, W 0 m (upd H1 D (.lst []))) ∧ ∀ i m H, W i m H →
      ((Itr lo n).stop i H ∧ Qd H) ∨ ((Itr lo n).go i H ∧ ∃ Nx : Hp → Prop, (∀ H', Nx H' → ∃ m', m' < m ∧ W (i + 1) m' H') ∧ ∀ x H', (Itr lo n).yld i H x H' → (gName j) x (wipe σ vs) H' fun σ2 H2 => wipe σ2 vs = wipe σ vs ∧ tt σ2 H2 fun b H3 =>
        if b = true then te σ2 H3 fun y H4 => ∃ acc, H4 D = some (.lst acc) ∧ acc.length < sizeLine ∧ Nx (upd H4 D (.lst (acc ++ [y]))) else Nx H3) := by
  refine lc_range (lo := lo) (n := n) (fun i H => ∃ acc, Same H1 H ∧ H D = some (.lst acc) ∧ acc.length ≤ i ∧ ok i acc) ⟨[], same_upd hD, upd_same, Nat.le_refl _, h0⟩ (fun i H hi p => ?_) (fun H p => ?_)
  · obtain ⟨acc, p2, p3, p4, p5⟩ := p
    refine ⟨hw _, turn i H acc hi p2 p5 p4 _ _ (fun y H' q2 q3 => ⟨acc, q2 _ _ p3, szLt (by omega), acc ++ [y], smut (p2.trans q2) hD, upd_same, ?_, q3⟩) (fun H' q2 q3 => ⟨acc, p2.trans q2, q2 _ _ p3, by omega, q3⟩)⟩
    rw [List.length_append]
    show acc.length + 1 ≤ i + 1
    omega
  · obtain ⟨acc, p2, p3, p4, p5⟩ := p
    exact done H acc p2 p3 p4 p5
theorem lc_listS {a : Addr} {xs : List V} {j : Nat} {tt : TT} {te : TE} {vs : List Nat} {σ : L2.St} {H1 : Hp} {D : Addr} {Qd : Hp → Prop} (ok : Nat → List V → Prop)
    (hx : SqL K H1 a xs) (hD : H1 D = none) (hn : xs.length ≤ 100000) (h0 : ok 0 []) (hw : ∀ x, wipe ((wipe σ vs).set j (some x)) vs = wipe σ vs)
    (turn : ∀ (i : Nat) (x : V) (H : Hp) (acc : List V), xs[i]? = some x → Same H1 H → ok i acc → acc.length ≤ i → ∀ (N1 : V → Hp → Prop) (N2 : Hp → Prop),
      (∀ y H', Same H H' → ok (i + 1) (acc ++ [y]) → N1 y H') → (∀ H', Same H H' → ok (i + 1) acc → N2 H') →
      tt ((wipe σ vs).set j (some x)) H fun b H3 => if b = true then te ((wipe σ vs).set j (some x)) H3 N1 else N2 H3)
    (done : ∀ (H : Hp) (acc : List V), Same H1 H → H D = some (.lst acc) → acc.length ≤ xs.length → ok xs.length acc → Qd H) :
    ∃ W : Nat → Nat → Hp → Prop, (∃ m, W 0 m (upd H1 D (.lst []))) ∧ ∀ i m H, W i m H →
      ((Itl K a).stop i H ∧ Qd H) ∨ ((Itl K a).go i H ∧ ∃ Nx : Hp → Prop, (∀ H', Nx H' → ∃ m', m' < m ∧ W (i + 1) m' H') ∧ ∀ x H', (Itl K a).yld i H x H' → (gName j) x (wipe σ vs) H' fun σ2 H2 => wipe σ2 vs = wipe σ vs ∧ tt σ2 H2 fun b H3 =>
        if b = true then te σ2 H3 fun y H4 => ∃ acc, H4 D = some (.lst acc) ∧ acc.length < sizeLine ∧ Nx (upd H4 D (.lst (acc ++ [y]))) else Nx H3) := by
  refine lc_list (xs := xs) (fun i H => ∃ acc, Same H1 H ∧ H D = some (.lst acc) ∧ acc.length ≤ i ∧ ok i acc) ⟨[], same_upd hD, upd_same, Nat.le_refl _, h0⟩ (fun i H _ p => ?_) (fun i x H hi p => ?_) (fun H p => ?_)
  · obtain ⟨acc, p2, _⟩ := p
    exact p2.seq hx
  · obtain ⟨acc, p2, p3, p4, p5⟩ := p
    have hil : i < xs.length := (List.getElem?_eq_some_iff.mp hi).1
    refine ⟨hw _, turn i x H acc hi p2 p5 p4 _ _ (fun y H' q2 q3 => ⟨acc, q2 _ _ p3, szLt (by omega), acc ++ [y], smut (p2.trans q2) hD, upd_same, ?_, q3⟩) (fun H' q2 q3 => ⟨acc, p2.trans q2, q2 _ _ p3, by omega, q3⟩)⟩
    rw [List.length_append]
    show acc.length + 1 ≤ i + 1
    omega
  · obtain ⟨acc, p2, p3, p4, p5⟩ := p
    exact done H acc p2 p3 p4 p5
theorem lc_tupS {a : Addr} {xs : List V} {j : Nat} {tt : TT} {te : TE} {vs : List Nat} {σ : L2.St} {H1 : Hp} {D : Addr} {Qd : Hp → Prop} (ok : Nat → List V → Prop)
    (hx : SqT K H1 a xs) (hD : H1 D = none) (hn : xs.length ≤ 100000) (h0 : ok 0 []) (hw : ∀ x, wipe ((wipe σ vs).set j (some x)) vs = wipe σ vs)
    (turn : ∀ (i : Nat) (x : V) (H : Hp) (acc : List V), xs[i]? = some x → Same H1 H → ok i acc → acc.length ≤ i → ∀ (N1 : V → Hp → Prop) (N2 : Hp → Prop),
      (∀ y H', Same H H' → ok (i + 1) (acc ++ [y]) → N1 y H') → (∀ H', Same H H' → ok (i + 1) acc → N2 H') →
      tt ((wipe σ vs).set j (some x)) H fun b H3 => if b = true then te ((wipe σ vs).set j (some x)) H3 N1 else N2 H3)
    (done : ∀ (H : Hp) (acc : List V), Same H1 H → H D = some (.lst acc) → acc.length ≤ xs.length → ok xs.length acc → Qd H) :
    ∃ W : Nat → Nat → Hp → Prop, (∃ m, W 0 m (upd H1 D (.lst []))) ∧ ∀ i m H, W i m H →
      ((Itt K a).stop i H ∧ Qd H) ∨ ((Itt K a).go i H ∧ ∃ Nx : Hp → Prop, (∀ H', Nx H' → ∃ m', m' < m ∧ W (i + 1) m' H') ∧ ∀ x H', (Itt K a).yld i H x H' → (gName j) x (wipe σ vs) H' fun σ2 H2 => wipe σ2 vs = wipe σ vs ∧ tt σ2 H2 fun b H3 =>
        if b = true then te σ2 H3 fun y H4 => ∃ acc, H4 D = some (.lst acc) ∧ acc.length < sizeLine ∧ Nx (upd H4 D (.lst (acc ++ [y]))) else Nx H3) := by
  refine lc_tup (xs := xs) (fun i H => ∃ acc, Same H1 H ∧ H D = some (.lst acc) ∧ acc.length ≤ i ∧ ok i acc) ⟨[], same_upd hD, upd_same, Nat.le_refl _, h0⟩ (fun i H _ p => ?_) (fun i x H hi p => ?_) (fun H p => ?_)
  · obtain ⟨acc, p2, _⟩ := p
    exact ssqt p2 hx
  · obtain ⟨acc, p2, p3, p4, p5⟩ := p
    have hil : i < xs.length := (List.getElem?_eq_some_iff.mp hi).1
    refine ⟨hw _, turn i x H acc hi p2 p5 p4 _ _ (fun y H' q2 q3 => ⟨acc, q2 _ _ p3, szLt (by omega), acc ++ [y], smut (p2.trans q2) hD, upd_same, ?_, q3⟩) (fun H' q2 q3 => ⟨acc, p2.trans q2, q2 _ _ p3, by omega, q3⟩)⟩
    rw [List.length_append]
    show acc.length + 1 ≤ i + 1
    omega
  · obtain ⟨acc, p2, p3, p4, p5⟩ := p
    exact done H acc p2 p3 p4 p5
end

/-- what the top leaves of the names that the text reads -/
structure Bi (mg : Str → Option Value) : Prop where
  ValueError : mg "ValueError" = none
  isinstance : mg "isinstance" = none
  tuple : mg "tuple" = none
  all : mg "all" = none
  list : mg "list" = none
  enumerate : mg "enumerate" = none
  range : mg "range" = none
  bool : mg "bool" = none
  int : mg "int" = none
  str : mg "str" = none
  len : mg "len" = none
  any : mg "any" = none
  sorted : mg "sorted" = none
  min : mg "min" = none

/-! ### _law_pool, _law_draw -/
abbrev s_law_pool : Stmt := topS 18
theorem sc_law_pool : FnScope ["_law_script", "_law_great", "_law_cell"] ["_law_script"] (defScope s_law_pool) := ⟨rfl, rfl, rfl, by decide +kernel, rfl, by decide +kernel, by decide +kernel⟩
abbrev s_law_draw : Stmt := topS 19
theorem sc_law_draw : FnScope ["_law_pool_here", "_law_many", "_law_cell"] ["_law_pool_here", "_law_many"] (defScope s_law_draw) := ⟨rfl, rfl, rfl, by decide +kernel, rfl, by decide +kernel, by decide +kernel⟩
section
variable {P : Program} {w : World} {K : PySem.W.Frag} {mg : Str → Option Value} {base : Heap}
def spPool (K : PySem.W.Frag) : Sp := fun vs H Q _ => ∃ (l : Addr) (ns : List Int), vs = [.ref l] ∧ SqL K H l (ns.map V.int) ∧ ns.length ≤ 63 ∧ ∀ H' a, Same H H' → Pool H' a 0 → Q (.ref a.p) H'
theorem ok_pool {f : Addr} {fd : FuncData} (F : Fun K "_law_pool" "_law_pool" s_law_pool f fd) : FnOk P w K mg base CX0 1 f fd ["_law_script"] (spPool K) := by
  refine F.ok sc_law_pool (fun vs H Q E h => ?_) (fun cdv A outer s H vs Q E hr h => ?_)
  · obtain ⟨l, ns, rfl, _⟩ := h
    rfl
  · obtain ⟨l, ns, rfl, hS, hlen, q⟩ := h
    refine ⟨_, (pss_cons (ps_setLc (i := 1) (own := [("_law_cell", 2)]) (g := gName 2) (by rfl) sc_law_pool.nd rfl rfl (sw_true rfl rfl rfl (by decide +kernel)) (pi_list (pv 0)) (blkOk_by (own := [("_law_cell", 2)]) (N := ["_law_script", "_law_great", "_law_cell"]) (sc := defScope s_law_pool) (by decide +kernel)) (fun _ _ _ _ _ => (pg_name (i := 2) sc_law_pool.nd rfl (.inl rfl))) (fun _ _ _ _ _ => (pts_one (pt_cmpR op_ge (pv 2) (pe_op op_pow pe_int pe_int) (nomark _)))) (fun _ _ _ _ _ => (pv 2)))
      (pss_one (ps_ret (pe_lst (pa_cons (pv 1) (pa_cons (pe_lc (own := [("_law_cell", 2)]) (g := gName 2) rfl sc_law_pool.nd (pi_list (pv 0)) (blkOk_by (own := [("_law_cell", 2)]) (N := ["_law_script", "_law_great", "_law_cell"]) (sc := defScope s_law_pool) (by decide +kernel)) (fun _ _ _ _ _ => (pg_name (i := 2) sc_law_pool.nd rfl (.inl rfl))) (fun _ _ _ _ _ => (pts_one (pt_cmpR op_lt (pv 2) (pe_op op_pow pe_int pe_int) (nomark _)))) (fun _ _ _ _ _ => (pv 2))) (pa_cons pe_int (pa_cons pe_int pa_nil)))))))), ?_⟩
    refine ⟨_, rfl, l, rfl, ⟨_, hS⟩, fun D hD => lc_listS (K := K) (a := l) (xs := ns.map V.int) (fun i acc => ∃ gs : List Int, acc = gs.map V.int) hS hD (by rw [List.length_map]; omega) ⟨[], rfl⟩ (fun _ => rfl) ?_ ?_⟩
    · intro i x H1 acc hx s1 ⟨gs, hg⟩ _ N1 N2 k1 k2
      obtain ⟨z, hz, rfl⟩ := map_get hx
      refine ⟨_, rfl, _, _, rfl, rfl, ⟨by decide, by decide, by decide⟩, _, _, rfl, rfl, _, rfl, ite2 (fun e => ?_) (fun e => ?_)⟩
      · exact ⟨_, rfl, k1 _ _ (Same.refl _) ⟨gs ++ [z], by rw [hg, List.map_append]; rfl⟩⟩
      · exact k2 _ (Same.refl _) ⟨gs, hg⟩
    · intro H1 acc s1 hD1 la ⟨gs, hg⟩
      subst hg
      have hS1 : SqL K H1 l (ns.map V.int) := s1.seq hS
      refine ⟨_, rfl, _, rfl, l, rfl, ⟨_, hS1⟩, fun D2 hD2 => lc_listS (K := K) (a := l) (xs := ns.map V.int) (fun i acc => ∃ gs : List Int, acc = gs.map V.int) hS1 hD2 (by rw [List.length_map]; omega) ⟨[], rfl⟩ (fun _ => rfl) ?_ ?_⟩
      · intro i x H2 acc hx s2 ⟨gs, hg⟩ _ N1 N2 k1 k2
        obtain ⟨z, hz, rfl⟩ := map_get hx
        refine ⟨_, rfl, _, _, rfl, rfl, ⟨by decide, by decide, by decide⟩, _, _, rfl, rfl, _, rfl, ite2 (fun e => ?_) (fun e => ?_)⟩
        · exact ⟨_, rfl, k1 _ _ (Same.refl _) ⟨gs ++ [z], by rw [hg, List.map_append]; rfl⟩⟩
        · exact k2 _ (Same.refl _) ⟨gs, hg⟩
      · intro H2 acc s2 hD2' la2 ⟨ss, hs⟩
        subst hs
        refine ⟨by show 4 ≤ sizeLine; decide, fun p hp => q _ ⟨p, D, D2⟩ ((s1.trans s2).trans (same_upd hp)) ⟨gs, ss, 5, 0, upd_same, ?_, ?_, ?_, ?_, by decide, by decide, by decide, by decide, ?_⟩⟩
        · show upd H2 p _ D = _
          rw [upd_ne (ne_of_none (s2 _ _ hD1) hp)]
          exact s2 _ _ hD1
        · show upd H2 p _ D2 = _
          rw [upd_ne (ne_of_none hD2' hp)]
          exact hD2'
        · rw [List.length_map, List.length_map] at la
          omega
        · rw [List.length_map, List.length_map] at la2
          omega
        · exact (ne_of_none hD1 hD2).symm
def spDraw : Sp := fun vs H Q _ => ∃ (a : PA) (c : Nat) (m : Int), vs = [.ref a.p, .int m] ∧ Pool H a c ∧ c < 1000000 ∧ 0 < m ∧ m < 1073741824 ∧
  ∀ H' r, 0 ≤ r → r < m → Pool H' a (c + 1) → Kp a H H' → Q (.int r) H'
theorem ok_draw {f : Addr} {fd : FuncData} (F : Fun K "_law_draw" "_law_draw" s_law_draw f fd) (T : Bi mg) : FnOk P w K mg base CX0 1 f fd ["_law_pool_here", "_law_many"] spDraw := by
  refine F.ok sc_law_draw (fun vs H Q E h => ?_) (fun cdv A outer s H vs Q E hr h => ?_)
  · obtain ⟨a, c, m, rfl, _⟩ := h
    rfl
  · obtain ⟨⟨p, g, s⟩, c, m, rfl, PP, hc, hm0, hm1, q⟩ := h
    obtain ⟨gs, ss, st, ct, a1, a2, a3, a4, a5, a6, a7, a8, a9, a10⟩ := PP.ex
    have npg : p ≠ g := ne_of a1 a2 (by intro q; have := HO.lst.inj q; cases gs <;> cases this)
    have nps : p ≠ s := ne_of a1 a3 (by intro q; have := HO.lst.inj q; cases ss <;> cases this)
    refine ⟨_, (pss_cons (ps_if (pt_cmpR op_gt (pe_callB call_len_seq (by rfl) T.len PySem.boot_len (pa_cons (pe_ix ix_list (pv 0) pe_int (fun _ _ => rfl)) pa_nil)) pe_int (nomark _))
        (pss_cons (ps_set (i := 2) sc_law_draw.nd rfl (.inl rfl) (pe_ix ix_list (pe_ix ix_list (pv 0) pe_int (fun _ _ => rfl)) pe_int (fun _ _ => rfl)))
        (pss_cons (ps_asg (pe_op op_fdiv (pv 2) (pv 1)) (pg_sub (pe_ix ix_list (pv 0) pe_int (fun _ _ => rfl)) pe_int set_list))
        (pss_cons (ps_if (pt_cmpR op_eq (pe_op op_fdiv (pv 2) (pv 1)) pe_int (nomark _))
          (pss_one (ps_expr (pe_bm PySem.F.plainAttrs_list PySem.F.slot_list_pop PySem.F.type_list_pop mt_popAt (pe_ix ix_list (pv 0) pe_int (fun _ _ => rfl)) (pa_cons pe_int pa_nil))))
          pss_nil)
        (pss_one (ps_ret (pe_op op_mod (pv 2) (pv 1)))))))
        pss_nil)
      (pss_cons (ps_asg (pe_op op_add (pe_ix ix_list (pv 0) pe_int (fun _ _ => rfl)) pe_int) (pg_sub (pv 0) pe_int set_list))
      (pss_cons (ps_set (i := 2) sc_law_draw.nd rfl (.inl rfl) pe_int)
      (pss_cons (ps_if (pt_cmpR op_gt (pe_callB call_len_seq (by rfl) T.len PySem.boot_len (pa_cons (pe_ix ix_list (pv 0) pe_int (fun _ _ => rfl)) pa_nil)) pe_int (nomark _))
        (pss_one (ps_set (i := 2) sc_law_draw.nd rfl (.inl rfl) (pe_ix ix_list (pe_ix ix_list (pv 0) pe_int (fun _ _ => rfl)) (pe_op op_mod (pe_ix ix_list (pv 0) pe_int (fun _ _ => rfl)) (pe_callB call_len_seq (by rfl) T.len PySem.boot_len (pa_cons (pe_ix ix_list (pv 0) pe_int (fun _ _ => rfl)) pa_nil))) (fun _ _ => rfl))))
        pss_nil)
      (pss_cons (ps_set (i := 2) sc_law_draw.nd rfl (.inl rfl) (pe_op op_mul (pe_op op_mod (pv 2) pe_int) (pe_op op_add (pe_op op_mul (pe_ix ix_list (pv 0) pe_int (fun _ _ => rfl)) (pe_ix ix_list (pv 0) pe_int (fun _ _ => rfl))) pe_int)))
      (pss_cons (ps_asg (pe_op op_mod (pe_op op_add (pe_op op_add (pe_op op_mul (pe_ix ix_list (pv 0) pe_int (fun _ _ => rfl)) pe_int) (pv 2)) (pe_op op_mul pe_int (pe_ix ix_list (pv 0) pe_int (fun _ _ => rfl)))) pe_int) (pg_sub (pv 0) pe_int set_list))
      (pss_one (ps_ret (pe_op op_mod (pe_op op_fdiv (pe_op op_mod (pe_op op_pow (pe_ix ix_list (pv 0) pe_int (fun _ _ => rfl)) pe_int) pe_int) pe_int) (pv 1)))))))))), ?_⟩
    -- if len(pool[0]) > 0
    refine ⟨_, rfl, p, _, _, _, rfl, rfl, SqL.of a1, at_of (j := 0) rfl rfl, g, _, rfl, .inl (SqL.of a2), _, _, rfl, rfl, _, rfl, ite2 (fun e => ?_) (fun e => ?_)⟩
    · obtain ⟨z, r, rfl⟩ : ∃ z r, gs = z :: r := by
        cases gs with
        | nil => exact absurd e (by decide)
        | cons z r => exact ⟨z, r, rfl⟩
      refine ⟨_, rfl, p, _, _, _, rfl, rfl, SqL.of a1, at_of (j := 0) rfl rfl, g, _, _, .int z, rfl, rfl, SqL.of a2, at_of (j := 0) rfl rfl, ?_⟩
      have a1' : ∀ o, upd H g o p = some (.lst [.ref g, .ref s, .int st, .int ct]) := fun o => by
        rw [upd_ne npg]
        exact a1
      have a3' : ∀ o, upd H g o s = some (.lst (ss.map V.int)) := fun o => by
        rw [upd_ne a10]
        exact a3
      refine ⟨_, rfl, _, rfl, _, _, rfl, rfl, ⟨hm0, hm1⟩, _, rfl, p, _, _, _, rfl, rfl, SqL.of a1, at_of (j := 0) rfl rfl, g, _, 0, 0, rfl, rfl, a2, ixN0 (by simp), ?_⟩
      refine ⟨_, rfl, _, rfl, _, _, rfl, rfl, ⟨hm0, hm1⟩, rfl, _, rfl, ite2 (fun e0 => ?_) (fun e0 => ?_)⟩
      · refine ⟨_, rfl, p, _, _, _, rfl, rfl, SqL.of (a1' _), at_of (j := 0) rfl rfl, .inl ⟨rfl, _, SqL.of upd_same⟩, g, _, 0, 0, _, rfl, rfl, upd_same, by decide, by decide, six0 (by simp), rfl, ?_⟩
        refine ⟨_, rfl, _, rfl, _, _, rfl, rfl, hm0, ?_⟩
        refine q _ _ (Int.emod_nonneg _ (by omega)) (Int.emod_lt_of_pos _ hm0) ⟨r, ss, st, ct, ?_, ?_, ?_, ?_, a5, a6, a7, a8, by omega, a10⟩ (fun b o hb n => ?_)
        · rw [upd_upd]
          exact a1' _
        · show upd _ g _ g = _
          rw [upd_same]
          rfl
        · rw [upd_upd]
          exact a3' _
        · simp at a4
          omega
        · rw [upd_ne n.2.1, upd_ne n.2.1]
          exact hb
      · refine ⟨_, rfl, _, rfl, _, _, rfl, rfl, hm0, ?_⟩
        refine q _ _ (Int.emod_nonneg _ (by omega)) (Int.emod_lt_of_pos _ hm0) ⟨(z / m) :: r, ss, st, ct, a1' _, ?_, a3' _, ?_, a5, a6, a7, a8, by omega, a10⟩ (fun b o hb n => ?_)
        · show upd _ g _ g = _
          rw [upd_same]
          rfl
        · simpa using a4
        · rw [upd_ne n.2.1]
          exact hb
    · -- pool[3] = pool[3] + 1
      refine ⟨_, rfl, p, _, _, _, rfl, rfl, SqL.of a1, at_of (j := 3) rfl rfl, _, _, rfl, rfl, _, rfl, p, _, 3, 3, rfl, rfl, a1, rfl, ?_⟩
      have w1 : upd H p (.lst [.ref g, .ref s, .int st, .int (ct + 1)]) p = some (.lst [.ref g, .ref s, .int st, .int (ct + 1)]) := upd_same
      have w2 : ∀ o, upd H p o g = some (.lst (gs.map V.int)) := fun o => by
        rw [upd_ne npg.symm]
        exact a2
      have w3 : ∀ o, upd H p o s = some (.lst (ss.map V.int)) := fun o => by
        rw [upd_ne nps.symm]
        exact a3
      -- cell = 0; if len(pool[1]) > 0
      refine ⟨_, rfl, p, _, _, _, rfl, rfl, SqL.of w1, at_of (j := 1) rfl rfl, s, _, rfl, .inl (SqL.of (w3 _)), _, _, rfl, rfl, _, rfl, ite2 (fun e => ?_) (fun e => ?_)⟩
      · have l0 : 0 < ss.length := by
          have := of_decide_eq_true e
          simpa using this
        have l1 : 0 ≤ (ct + 1) % (ss.length : Int) := Int.emod_nonneg _ (by omega)
        have l2 : (ct + 1) % (ss.length : Int) < ss.length := Int.emod_lt_of_pos _ (by omega)
        obtain ⟨j, ej⟩ : ∃ j : Nat, (ct + 1) % (ss.length : Int) = (j : Int) := ⟨_, (Int.toNat_of_nonneg l1).symm⟩
        have hj : j < ss.length := by omega
        have gj : (ss.map V.int)[j]? = some (.int ss[j]) := get_map (List.getElem?_eq_getElem hj)
        refine ⟨_, rfl, p, _, _, _, rfl, rfl, SqL.of w1, at_of (j := 1) rfl rfl, _, rfl, p, _, _, _, rfl, rfl, SqL.of w1, at_of (j := 3) rfl rfl, _, rfl, p, _, _, _, rfl, rfl, SqL.of w1, at_of (j := 1) rfl rfl, s, _, rfl, .inl (SqL.of (w3 _)), _, _, rfl, rfl, (by rw [List.length_map]; omega),
          s, _, _, _, rfl, rfl, SqL.of (w3 _), at_of (by rw [List.length_map]; exact ej) gj, ?_⟩
        generalize ss[j] = y
        refine ⟨_, rfl, _, _, rfl, rfl, (by show (0 : Int) < _; decide), _, rfl, p, _, _, _, rfl, rfl, SqL.of w1, at_of (j := 3) rfl rfl, _, rfl, p, _, _, _, rfl, rfl, SqL.of w1, at_of (j := 3) rfl rfl, _, _, rfl, rfl, .inl ⟨by omega, by omega⟩, _, _, rfl, rfl, _, _, rfl, rfl, .inl ⟨by omega, by omega⟩, ?_⟩
        refine ⟨_, rfl, p, _, _, _, rfl, rfl, SqL.of w1, at_of (j := 2) rfl rfl, _, _, rfl, rfl, .inl ⟨by omega, by omega⟩, _, rfl, _, _, rfl, rfl, _, rfl, p, _, _, _, rfl, rfl, SqL.of w1, at_of (j := 3) rfl rfl, _, _, rfl, rfl, .inl ⟨by omega, by omega⟩, _, _, rfl, rfl, _, _, rfl, rfl, (by show (0 : Int) < _; decide), _, rfl, p, _, 2, 2, rfl, rfl, w1, rfl, ?_⟩
        dsimp only [List.set]
        generalize hz : ((st * 48271 + y % 2147483629 * ((ct + 1) * (ct + 1) + 1) + 97 * (ct + 1)) % 2147483647 : Int) = z
        have hz0 : 0 ≤ z := by omega
        have hz1 : z < 2147483647 := by omega
        have w5 : upd (upd H p (.lst [.ref g, .ref s, .int st, .int (ct + 1)])) p (.lst [.ref g, .ref s, .int z, .int (ct + 1)]) p = some (.lst [.ref g, .ref s, .int z, .int (ct + 1)]) := upd_same
        refine ⟨_, rfl, p, _, _, _, rfl, rfl, SqL.of w5, at_of (j := 2) rfl rfl, _, _, rfl, rfl, ⟨by decide, by decide, by omega⟩, _, _, rfl, rfl, (by show (0 : Int) < _; decide), _, _, rfl, rfl, ⟨by decide, by decide⟩, _, rfl, _, _, rfl, rfl, hm0, ?_⟩
        refine q _ _ (Int.emod_nonneg _ (by omega)) (Int.emod_lt_of_pos _ hm0) ⟨gs, ss, z, ct + 1, w5, ?_, ?_, a4, a5, hz0, hz1, by omega, by omega, a10⟩ (fun b o hb n => ?_)
        · rw [upd_upd]
          exact w2 _
        · rw [upd_upd]
          exact w3 _
        · rw [upd_upd, upd_ne n.1]
          exact hb
      · refine ⟨_, rfl, _, _, rfl, rfl, (by show (0 : Int) < _; decide), _, rfl, p, _, _, _, rfl, rfl, SqL.of w1, at_of (j := 3) rfl rfl, _, rfl, p, _, _, _, rfl, rfl, SqL.of w1, at_of (j := 3) rfl rfl, _, _, rfl, rfl, .inl ⟨by omega, by omega⟩, _, _, rfl, rfl, _, _, rfl, rfl, .inl ⟨by omega, by omega⟩, ?_⟩
        refine ⟨_, rfl, p, _, _, _, rfl, rfl, SqL.of w1, at_of (j := 2) rfl rfl, _, _, rfl, rfl, .inl ⟨by omega, by omega⟩, _, rfl, _, _, rfl, rfl, _, rfl, p, _, _, _, rfl, rfl, SqL.of w1, at_of (j := 3) rfl rfl, _, _, rfl, rfl, .inl ⟨by omega, by omega⟩, _, _, rfl, rfl, _, _, rfl, rfl, (by show (0 : Int) < _; decide), _, rfl, p, _, 2, 2, rfl, rfl, w1, rfl, ?_⟩
        dsimp only [List.set]
        generalize hz : ((st * 48271 + 0 % 2147483629 * ((ct + 1) * (ct + 1) + 1) + 97 * (ct + 1)) % 2147483647 : Int) = z
        have hz0 : 0 ≤ z := by omega
        have hz1 : z < 2147483647 := by omega
        have w5 : upd (upd H p (.lst [.ref g, .ref s, .int st, .int (ct + 1)])) p (.lst [.ref g, .ref s, .int z, .int (ct + 1)]) p = some (.lst [.ref g, .ref s, .int z, .int (ct + 1)]) := upd_same
        refine ⟨_, rfl, p, _, _, _, rfl, rfl, SqL.of w5, at_of (j := 2) rfl rfl, _, _, rfl, rfl, ⟨by decide, by decide, by omega⟩, _, _, rfl, rfl, (by show (0 : Int) < _; decide), _, _, rfl, rfl, ⟨by decide, by decide⟩, _, rfl, _, _, rfl, rfl, hm0, ?_⟩
        refine q _ _ (Int.emod_nonneg _ (by omega)) (Int.emod_lt_of_pos _ hm0) ⟨gs, ss, z, ct + 1, w5, ?_, ?_, a4, a5, hz0, hz1, by omega, by omega, a10⟩ (fun b o hb n => ?_)
        · rw [upd_upd]
          exact w2 _
        · rw [upd_upd]
          exact w3 _
        · rw [upd_upd, upd_ne n.1]
          exact hb
end

def wordsL : List Str := ["yes", "no", "not", "and", "or", "step", "some", "all", "next", "once", "ever", "until", "unless"]
def lettersS : Str := "abcdefghijklmnopqrstuvwxyz"
structure Wd (K : PySem.W.Frag) (mg : Str → Option Value) where
  aW : Addr
  uL : Value
  gWORDS : mg "WORDS" = some (.ref aW)
  rWORDS : RelV (.ref aW) (.ref aW)
  sW : ∀ H, SqT K H aW (wordsL.map V.str)
  gLETTERS : mg "LETTERS" = some uL
  rLETTERS : RelV (.str lettersS) uL
/-- a text that is_name takes -/
structure GoodName (z : Str) : Prop where
  lo : 1 ≤ z.length
  hi : z.length ≤ 8
  nw : z ∉ wordsL
  al : ∀ c ∈ z.cps.toList, c ∈ lettersS.cps.toList
theorem flat_str (xs : List Str) : (xs.map V.str).all flatV = true := by
  rw [List.all_map, List.all_eq_true]
  exact fun _ _ => rfl
theorem flat_int (xs : List Int) : (xs.map V.int).all flatV = true := by
  rw [List.all_map, List.all_eq_true]
  exact fun _ _ => rfl
theorem inV_str (z : Str) (xs : List Str) : inV (.str z) (xs.map V.str) = decide (z ∈ xs) := by
  unfold inV
  rw [List.any_map]
  by_cases h : z ∈ xs
  · rw [decide_eq_true h, List.any_eq_true]
    exact ⟨z, h, by simp [Function.comp, eqV]⟩
  · rw [decide_eq_false h, List.any_eq_false]
    intro y hy q
    exact h (by simp [Function.comp, eqV] at q; rw [← q]; exact hy)
theorem inV_int (z : Int) (xs : List Int) : inV (.int z) (xs.map V.int) = decide (z ∈ xs) := by
  unfold inV
  rw [List.any_map]
  by_cases h : z ∈ xs
  · rw [decide_eq_true h, List.any_eq_true]
    exact ⟨z, h, by simp [Function.comp, eqV]⟩
  · rw [decide_eq_false h, List.any_eq_false]
    intro y hy q
    exact h (by simp [Function.comp, eqV] at q; rw [← q]; exact hy)

/-! ### rising rows -/
/-- a rising row of numbers below many -/
def RiseI (many : Int) (ns : List Int) : Prop := ns.Pairwise (· < ·) ∧ ∀ n ∈ ns, 0 ≤ n ∧ n < many
theorem rise_len {many : Int} {ns : List Int} (h : RiseI many ns) (hm : 0 ≤ many) : (ns.length : Int) ≤ many := by
  have key : ∀ (ns : List Int) (lo : Int), ns.Pairwise (· < ·) → (∀ n ∈ ns, lo ≤ n ∧ n < many) → lo ≤ many → (ns.length : Int) ≤ many - lo := by
    intro ns
    induction ns with
    | nil =>
      intro lo _ _ h
      show (0 : Int) ≤ _
      omega
    | cons x r ih =>
      intro lo hp hb hl
      obtain ⟨p1, p2⟩ := List.pairwise_cons.mp hp
      have b1 := hb x List.mem_cons_self
      have := ih (x + 1) p2 (fun n hn => ⟨by have := p1 n hn; omega, (hb n (List.mem_cons_of_mem _ hn)).2⟩) (by omega)
      rw [List.length_cons]
      omega
  have := key ns 0 h.1 h.2 hm
  omega
/-- a rising row of names -/
def RiseS (zs : List Str) : Prop := zs.Pairwise (fun x y => x.cps.toList < y.cps.toList) ∧ ∀ z ∈ zs, GoodName z

/-! ### fairtrees.machines, on what it takes -/
structure MachAt (K : PySem.W.Frag) (H : Hp) (m : Addr) (steps : List (List Int)) (marks : List (List Str)) : Prop where
  ex : ∃ (s k : Addr) (sa ka : List Addr), SqT K H m [.ref s, .ref k] ∧ SqT K H s (sa.map V.ref) ∧ SqT K H k (ka.map V.ref) ∧
    Each (fun a ns => SqT K H a (ns.map V.int)) sa steps ∧ Each (fun a zs => SqT K H a (zs.map V.str)) ka marks
structure GoodMach (steps : List (List Int)) (marks : List (List Str)) : Prop where
  len : steps.length = marks.length
  lo : 1 ≤ steps.length
  hi : steps.length ≤ 40
  st : ∀ r ∈ steps, RiseI steps.length r
  mr : ∀ r ∈ marks, RiseS r ∧ r.length ≤ 8
theorem MachAt.imm {K : PySem.W.Frag} {H H' : Hp} {m : Addr} {steps : List (List Int)} {marks : List (List Str)} (M : MachAt K H m steps marks) (e : Imm H H') : MachAt K H' m steps marks := by
  obtain ⟨s, k, sa, ka, h1, h2, h3, h4, h5⟩ := M.ex
  exact ⟨s, k, sa, ka, e.sq h1, e.sq h2, e.sq h3, h4.imp fun _ _ h => e.sq h, h5.imp fun _ _ h => e.sq h⟩
structure WishAt (K : PySem.W.Frag) (H : Hp) (t : Addr) (ws : List (Str × Str)) : Prop where
  ex : ∃ wa : List Addr, SqT K H t (wa.map V.ref) ∧ Each (fun a (x : Str × Str) => SqT K H a [.str x.1, .str x.2]) wa ws
theorem WishAt.imm {K : PySem.W.Frag} {H H' : Hp} {t : Addr} {ws : List (Str × Str)} (M : WishAt K H t ws) (e : Imm H H') : WishAt K H' t ws := by
  obtain ⟨wa, h1, h2⟩ := M.ex
  exact ⟨wa, e.sq h1, h2.imp fun _ _ h => e.sq h⟩
theorem ref_get {as : List Addr} {i : Nat} {v : V} (h : (as.map V.ref)[i]? = some v) : ∃ a, as[i]? = some a ∧ v = .ref a := map_get h
theorem dec_str (x y : Str) : decide (V.str x = V.str y) = decide (x = y) := by
  by_cases h : x = y
  · rw [decide_eq_true h, decide_eq_true (by rw [h])]
  · rw [decide_eq_false h, decide_eq_false fun q => h (V.str.inj q)]
theorem dec_int (x y : Int) : decide (V.int x = V.int y) = decide (x = y) := by
  by_cases h : x = y
  · rw [decide_eq_true h, decide_eq_true (by rw [h])]
  · rw [decide_eq_false h, decide_eq_false fun q => h (V.int.inj q)]
/-- the standings that bear a name -/
def bearersOf (marks : List (List Str)) (z : Str) (n : Nat) : List Int := ((List.range n).filter fun j => decide (z = Str.ofString "") || decide (z ∈ marks.getD j [])).map Int.ofNat
theorem bearersOf_yes {marks : List (List Str)} {z : Str} {n : Nat} (h : (decide (z = Str.ofString "") || decide (z ∈ marks.getD n [])) = true) : bearersOf marks z (n + 1) = bearersOf marks z n ++ [(n : Int)] := by
  unfold bearersOf
  rw [List.range_succ, List.filter_append, List.map_append, List.filter_cons, if_pos h] <;> rfl
theorem bearersOf_no {marks : List (List Str)} {z : Str} {n : Nat} (h : (decide (z = Str.ofString "") || decide (z ∈ marks.getD n [])) = false) : bearersOf marks z (n + 1) = bearersOf marks z n := by
  unfold bearersOf
  rw [List.range_succ, List.filter_append, List.map_append, List.filter_cons, if_neg (by rw [h]; decide)]
  show _ ++ [] = _
  rw [List.append_nil]

/-! ### _law_name, _law_names -/
theorem letters_eq : lettersS.cps.toList = List.range' 97 26 := by decide +kernel
theorem letters_at {j : Nat} (hj : j < 26) : lettersS.cps.toList[j]? = some (97 + j) := by
  rw [letters_eq, List.getElem?_range' hj]
  simp
theorem letters_len : lettersS.length ≤ 100000 := by
  show lettersS.cps.size ≤ 100000
  rw [← Array.length_toList, letters_eq]
  simp
theorem letters_mem {j : Nat} (hj : j < 26) : 97 + j ∈ lettersS.cps.toList := List.mem_of_getElem? (letters_at hj)
def Alpha (z : Str) : Prop := ∀ c ∈ z.cps.toList, c ∈ lettersS.cps.toList
theorem app_list (x y : Str) : (x ++ y).cps.toList = x.cps.toList ++ y.cps.toList := by
  show (x.cps ++ y.cps).toList = _
  rw [Array.toList_append]
theorem app_len (x y : Str) : (x ++ y).length = x.length + y.length := by
  show (x ++ y).cps.size = x.cps.size + y.cps.size
  rw [← Array.length_toList, ← Array.length_toList, ← Array.length_toList, app_list, List.length_append]
theorem alpha_app {x : Str} {j : Nat} (h : Alpha x) (hj : j < 26) : Alpha (x ++ ⟨#[97 + j]⟩) := fun c hc => by
  rw [app_list] at hc
  rcases List.mem_append.mp hc with hc | hc
  · exact h c hc
  · have e : c = 97 + j := by simpa using hc
    rw [e]
    exact letters_mem hj
theorem pigeon {α : Type} [BEq α] [LawfulBEq α] : ∀ (l m : List α), l.Nodup → (∀ x ∈ l, x ∈ m) → l.length ≤ m.length
  | [], _, _, _ => Nat.zero_le _
  | x :: r, m, nd, h => by
    obtain ⟨n1, n2⟩ := List.nodup_cons.mp nd
    have hx := h x List.mem_cons_self
    have := pigeon r (m.erase x) n2 fun y hy => (List.mem_erase_of_ne (fun q => n1 (by rw [← q]; exact hy))).mpr (h y (List.mem_cons_of_mem _ hy))
    rw [List.length_erase_of_mem hx] at this
    have : 0 < m.length := List.length_pos_of_mem hx
    rw [List.length_cons]
    omega
/-- what the loop tries at its k-th turn -/
def cand (nm : Str) (last k : Nat) : Str := nm ++ ⟨#[97 + (last + k) % 26]⟩
theorem cand_inj {nm : Str} {last j k : Nat} (hj : j < 26) (hk : k < 26) (h : cand nm last j = cand nm last k) : j = k := by
  have e : (cand nm last j).cps.toList = (cand nm last k).cps.toList := by rw [h]
  unfold cand at e
  rw [app_list, app_list] at e
  have e2 := List.append_cancel_left e
  simp at e2
  omega
theorem cand_some {nm : Str} {last : Nat} {words taken : List Str} (hw : words.length + taken.length < 26) (h : ∀ j, j < 26 → cand nm last j ∈ words ∨ cand nm last j ∈ taken) : False := by
  have nd : ((List.range 26).map (cand nm last)).Nodup := by
    refine List.pairwise_map.mpr ((List.pairwise_lt_range (n := 26)).imp_of_mem fun ha hb hab e => ?_)
    have := cand_inj (List.mem_range.mp ha) (List.mem_range.mp hb) e
    omega
  have := pigeon _ (words ++ taken) nd fun x hx => by
    obtain ⟨j, hj, rfl⟩ := List.mem_map.mp hx
    exact List.mem_append.mpr (h j (List.mem_range.mp hj))
  rw [List.length_map, List.length_range, List.length_append] at this
  omega
abbrev s_law_name : Stmt := topS 20
theorem sc_law_name : FnScope ["_law_pool_here", "_law_start", "_law_taken", "_law_letters", "_law_name_here", "_law_k", "_law_last", "_law_words", "_law_found"] ["_law_pool_here", "_law_start", "_law_taken"] (defScope s_law_name) := ⟨rfl, rfl, rfl, by decide +kernel, rfl, by decide +kernel, by decide +kernel⟩
abbrev s_law_names : Stmt := topS 21
theorem sc_law_names : FnScope ["_law_pool_here", "_law_many", "_law_letters", "_law_start", "_law_k", "_law_names_here"] ["_law_pool_here", "_law_many"] (defScope s_law_names) := ⟨rfl, rfl, rfl, by decide +kernel, rfl, by decide +kernel, by decide +kernel⟩
section
variable {P : Program} {w : World} {K : PySem.W.Frag} {mg : Str → Option Value} {base : Heap}
def spLName : Sp := fun vs H Q _ => ∃ (a : PA) (c : Nat) (start : Str) (t : Addr) (taken : List Str), vs = [.ref a.p, .str start, .ref t] ∧ Pool H a c ∧ c < 900000 ∧ H t = some (.lst (taken.map V.str)) ∧ Off a t ∧ Alpha start ∧ start.length ≤ 4 ∧ taken.length ≤ 12 ∧
  ∀ H' z, GoodName z → z ∉ taken → Pool H' a (c + 5) → Kp a H H' → Q (.str z) H'
theorem ok_lname {f : Addr} {fd : FuncData} (F : Fun K "_law_name" "_law_name" s_law_name f fd) (T : Bi mg) (c_law_draw : Cal P w K mg base 1 "_law_draw" ["_law_pool_here", "_law_many"] spDraw) : FnOk P w K mg base CX0 2 f fd ["_law_pool_here", "_law_start", "_law_taken"] spLName := by
  refine F.ok sc_law_name (fun vs H Q E h => ?_) (fun cdv A outer s H vs Q E hr h => ?_)
  · obtain ⟨a, c, start, t, taken, rfl, _⟩ := h
    rfl
  · obtain ⟨a, c, start, t, taken, rfl, PP, hc, ht, ot, al, sl, tl, q⟩ := h
    refine ⟨_, (pss_cons (ps_set (i := 3) sc_law_name.nd rfl (.inl rfl) pe_str)
      (pss_cons (ps_set (i := 4) sc_law_name.nd rfl (.inl rfl) (pv 1))
      (pss_cons (ps_for PassesOwn.never rfl (pi_range1 (by rfl) T.range (pa_cons (pe_call c_law_draw.G hr (by rfl) c_law_draw.g c_law_draw.kp c_law_draw.b .nil pass0 (pa_cons (pv 0) (pa_cons pe_int pa_nil))) pa_nil)) (pg_name (i := 5) sc_law_name.nd rfl (.inl rfl))
        (pss_one (ps_set (i := 4) sc_law_name.nd rfl (.inl rfl) (pe_op op_add_str (pv 4) (pe_ix ix_str (pv 3) (pe_call c_law_draw.G hr (by rfl) c_law_draw.g c_law_draw.kp c_law_draw.b .nil pass0 (pa_cons (pv 0) (pa_cons pe_int pa_nil))) (fun _ _ => rfl))))))
      (pss_cons (ps_set (i := 6) sc_law_name.nd rfl (.inl rfl) (pe_call c_law_draw.G hr (by rfl) c_law_draw.g c_law_draw.kp c_law_draw.b .nil pass0 (pa_cons (pv 0) (pa_cons pe_int pa_nil))))
      (pss_cons (ps_set (i := 7) sc_law_name.nd rfl (.inl rfl) (pe_lst (pa_cons pe_str (pa_cons pe_str (pa_cons pe_str (pa_cons pe_str (pa_cons pe_str (pa_cons pe_str (pa_cons pe_str (pa_cons pe_str (pa_cons pe_str (pa_cons pe_str (pa_cons pe_str (pa_cons pe_str (pa_cons pe_str pa_nil)))))))))))))))
      (pss_cons (ps_for PassesOwn.never rfl (pi_range1 (by rfl) T.range (pa_cons pe_int pa_nil)) (pg_name (i := 5) sc_law_name.nd rfl (.inl rfl))
        (pss_cons (ps_set (i := 8) sc_law_name.nd rfl (.inl rfl) (pe_op op_add_str (pv 4) (pe_ix ix_str (pv 3) (pe_op op_mod (pe_op op_add (pv 6) (pv 5)) pe_int) (fun _ _ => rfl))))
        (pss_one (ps_if (PW.pt (pw_and (pt_cmpR op_notIn_seq (pv 8) (pv 7) (by rfl)) (pw_and1 (pt_cmpR op_notIn_seq (pv 8) (pv 2) (by rfl)))))
          (pss_one (ps_ret (pv 8)))
          pss_nil))))
      (pss_one (ps_ret (pe_op op_add_str (pv 4) pe_str))))))))), ?_⟩
    -- for k in range(draw(pool, 4))
    refine ⟨_, rfl, _, rfl, a, c, 4, rfl, PP, by omega, by decide, by decide, fun H1 r r0 r1 P1 k1 => ⟨r, rfl, by omega, by omega, for_range (lo := 0) (n := r.toNat) (fun i σ H' => ∃ nm y,
      σ = [some (.ref a.p), some (.str start), some (.ref t), some (.str lettersS), some (.str nm), y, none, none, none] ∧ Alpha nm ∧ nm.length = start.length + i ∧ Pool H' a (c + 1 + i) ∧ Kp a H H')
      ⟨start, none, rfl, al, rfl, P1, k1⟩ ?_ ?_⟩⟩
    · rintro i σ H2 hi ⟨nm, y, rfl, an, ln, P2, k2⟩
      refine ⟨_, rfl, _, rfl, _, rfl, a, _, 26, rfl, P2, by omega, by decide, by decide, fun H3 r' r0' r1' P3 k3 => ?_⟩
      obtain ⟨j, rfl⟩ : ∃ j : Nat, r' = (j : Int) := ⟨r'.toNat, by omega⟩
      have hj : j < 26 := by omega
      refine ⟨lettersS, _, 97 + j, rfl, rfl, szOk letters_len, atI_nat (letters_at hj), nm, _, rfl, rfl, ?_, ?_⟩
      · show nm.length + 1 ≤ sizeLine
        exact szOk (by omega)
      · refine ⟨nm ++ ⟨#[97 + j]⟩, _, rfl, alpha_app an hj, ?_, ?_, k2.trans k3⟩
        · rw [app_len, ln]
          rfl
        · exact P3
    · rintro σ H2 ⟨nm, y, rfl, an, ln, P2, k2⟩
      -- last = draw(pool, 26); words
      refine ⟨_, rfl, a, _, 26, rfl, P2, by omega, by decide, by decide, fun H3 r' r0' r1' P3 k3 => ?_⟩
      obtain ⟨last, rfl⟩ : ∃ j : Nat, r' = (j : Int) := ⟨r'.toNat, by omega⟩
      refine ⟨by show 13 ≤ sizeLine; decide, fun l hl => ?_⟩
      have hl2 : upd H3 l (.lst (wordsL.map V.str)) l = some (.lst (wordsL.map V.str)) := upd_same
      have ht3 : H3 t = some (.lst (taken.map V.str)) := (k2.trans k3) _ _ ht ot
      have ht4 : ∀ o, upd H3 l o t = some (.lst (taken.map V.str)) := fun o => by
        rw [upd_ne (ne_of_none ht3 hl)]
        exact ht3
      refine ⟨26, rfl, by decide, by decide, for_range (lo := 0) (n := 26) (fun i σ H' => ∃ y z,
        σ = [some (.ref a.p), some (.str start), some (.ref t), some (.str lettersS), some (.str nm), y, some (.int last), some (.ref l), z] ∧ H' = upd H3 l (.lst (wordsL.map V.str)) ∧ ∀ j, j < i → cand nm last j ∈ wordsL ∨ cand nm last j ∈ taken)
        ⟨_, _, rfl, rfl, fun j hj => absurd hj (Nat.not_lt_zero _)⟩ ?_ ?_⟩
      · rintro i σ H' hi ⟨y', z, rfl, rfl, all⟩
        have hm : (last + i) % 26 < 26 := Nat.mod_lt _ (by decide)
        have em : ((last : Int) + (0 + (i : Int))) % 26 = (((last + i) % 26 : Nat) : Int) := by omega
        refine ⟨_, rfl, _, rfl, _, rfl, _, rfl, _, _, rfl, rfl, _, _, rfl, rfl, (by show (0 : Int) < _; decide), lettersS, _, 97 + (last + i) % 26, rfl, rfl, szOk letters_len, (by
          show atI _ (((last : Int) + (0 + (i : Int))) % 26) = _
          rw [em]
          exact atI_nat (letters_at hm)), nm, _, rfl, rfl, ?_, ?_⟩
        · show nm.length + 1 ≤ sizeLine
          exact szOk (by omega)
        · refine ⟨_, rfl, _, rfl, l, _, rfl, .inl (SqL.of hl2), rfl, flat_str _, _, rfl, ?_⟩
          rw [inV_str]
          refine ite2 (fun e => ?_) (fun e => ?_)
          · refine ⟨_, rfl, _, rfl, t, _, rfl, .inl (SqL.of (ht4 _)), rfl, flat_str _, _, rfl, ?_⟩
            rw [inV_str]
            refine ite2 (fun e2 => ?_) (fun e2 => ?_)
            · have n1 : cand nm last i ∉ wordsL := notdec e
              have n2 : cand nm last i ∉ taken := notdec e2
              have lc : (cand nm last i).length = nm.length + 1 := by
                unfold cand
                rw [app_len]
                rfl
              refine ⟨_, rfl, q _ (cand nm last i) ⟨by omega, by omega, n1, alpha_app an hm⟩ n2 ((P3.upd (P3.off hl)).mono (by omega)) ((k2.trans k3).mut ((k2.trans k3).free hl (P3.off hl)))⟩
            · refine ⟨_, _, rfl, rfl, fun j hj => ?_⟩
              by_cases h : j < i
              · exact all j h
              · have e3 : j = i := by omega
                rw [e3]
                exact .inr (dec_of e2)
          · refine iteF ⟨_, _, rfl, rfl, fun j hj => ?_⟩
            by_cases h : j < i
            · exact all j h
            · have e3 : j = i := by omega
              rw [e3]
              exact .inl (dec_of e)
      · rintro σ H' ⟨y', z, rfl, rfl, all⟩
        exact (cand_some (words := wordsL) (by show 13 + taken.length < 26; omega) all).elim
def spLNames : Sp := fun vs H Q _ => ∃ (a : PA) (c : Nat) (n : Nat), vs = [.ref a.p, .int n] ∧ Pool H a c ∧ c < 800000 ∧ n ≤ 12 ∧
  ∀ (H' : Hp) (l : Addr) (zs : List Str), Pool H' a (c + 5 + n * 5) → Kp a H H' → H' l = some (.lst (zs.map V.str)) → Off a l → zs.Nodup → (∀ z ∈ zs, GoodName z) → zs.length = n → Q (.ref l) H'
theorem ok_lnames {f : Addr} {fd : FuncData} (F : Fun K "_law_names" "_law_names" s_law_names f fd) (T : Bi mg) (c_law_draw : Cal P w K mg base 1 "_law_draw" ["_law_pool_here", "_law_many"] spDraw) (c_law_name : Cal P w K mg base 2 "_law_name" ["_law_pool_here", "_law_start", "_law_taken"] spLName) :
    FnOk P w K mg base CX0 3 f fd ["_law_pool_here", "_law_many"] spLNames := by
  refine F.ok sc_law_names (fun vs H Q E h => ?_) (fun cdv A outer s H vs Q E hr h => ?_)
  · obtain ⟨a, c, n, rfl, _⟩ := h
    rfl
  · obtain ⟨a, c, n, rfl, PP, hc, hn, q⟩ := h
    refine ⟨_, (pss_cons (ps_set (i := 2) sc_law_names.nd rfl (.inl rfl) pe_str)
      (pss_cons (ps_set (i := 3) sc_law_names.nd rfl (.inl rfl) pe_str)
      (pss_cons (ps_for PassesOwn.never rfl (pi_range1 (by rfl) T.range (pa_cons (pe_ix ix_list (pe_lst (pa_cons pe_int (pa_cons pe_int (pa_cons pe_int (pa_cons pe_int pa_nil))))) (pe_call c_law_draw.G (hr.mono (by decide)) (by rfl) c_law_draw.g c_law_draw.kp c_law_draw.b .nil pass0 (pa_cons (pv 0) (pa_cons pe_int pa_nil))) (fun _ _ => rfl)) pa_nil)) (pg_name (i := 4) sc_law_names.nd rfl (.inl rfl))
        (pss_one (ps_set (i := 3) sc_law_names.nd rfl (.inl rfl) (pe_op op_add_str (pv 3) (pe_ix ix_str (pv 2) (pe_call c_law_draw.G (hr.mono (by decide)) (by rfl) c_law_draw.g c_law_draw.kp c_law_draw.b .nil pass0 (pa_cons (pv 0) (pa_cons pe_int pa_nil))) (fun _ _ => rfl))))))
      (pss_cons (ps_set (i := 5) sc_law_names.nd rfl (.inl rfl) (pe_lst pa_nil))
      (pss_cons (ps_for PassesOwn.never rfl (pi_range1 (by rfl) T.range (pa_cons (pv 1) pa_nil)) (pg_name (i := 4) sc_law_names.nd rfl (.inl rfl))
        (pss_one (ps_expr (pe_bm PySem.F.plainAttrs_list PySem.F.slot_list_append PySem.F.type_list_append mt_append (pv 5) (pa_cons (pe_call c_law_name.G hr (by rfl) c_law_name.g c_law_name.kp c_law_name.b .nil pass0 (pa_cons (pv 0) (pa_cons (pv 3) (pa_cons (pv 5) pa_nil)))) pa_nil)))))
      (pss_one (ps_ret (pv 5)))))))), ?_⟩
    refine ⟨by show 4 ≤ sizeLine; decide, fun d hd => ⟨_, rfl, a, c, 4, rfl, PP.upd (PP.off hd), by omega, by decide, by decide, fun H1 r r0 r1 P1 k1 => ?_⟩⟩
    have k1' : Kp a H H1 := (skp (same_upd hd)).trans k1
    have hd1 : H1 d = some (.lst [.int 0, .int 0, .int 1, .int 4]) := k1 _ _ upd_same (PP.off hd)
    obtain ⟨v, v0, v1, hv⟩ : ∃ v : Int, 0 ≤ v ∧ v ≤ 4 ∧ atI [V.int 0, .int 0, .int 1, .int 4] r = some (.int v) := by
      have : r = 0 ∨ r = 1 ∨ r = 2 ∨ r = 3 := by omega
      rcases this with rfl | rfl | rfl | rfl
      · exact ⟨0, by decide, by decide, rfl⟩
      · exact ⟨0, by decide, by decide, rfl⟩
      · exact ⟨1, by decide, by decide, rfl⟩
      · exact ⟨4, by decide, by decide, rfl⟩
    refine ⟨d, _, r, .int v, rfl, rfl, SqL.of hd1, hv, v, rfl, by omega, by omega, for_range (lo := 0) (n := v.toNat) (fun i σ H' => ∃ nm y,
      σ = [some (.ref a.p), some (.int n), some (.str lettersS), some (.str nm), y, none] ∧ Alpha nm ∧ nm.length = i ∧ Pool H' a (c + 1 + i) ∧ Kp a H H')
      ⟨Str.ofString "", none, rfl, (fun c hc => absurd hc (by rw [show (Str.ofString "").cps.toList = [] by decide +kernel]; exact List.not_mem_nil)), (by decide +kernel), P1, k1'⟩ ?_ ?_⟩
    · rintro i σ H2 hi ⟨nm, y, rfl, an, ln, P2, k2⟩
      refine ⟨_, rfl, _, rfl, _, rfl, a, _, 26, rfl, P2, by omega, by decide, by decide, fun H3 r' r0' r1' P3 k3 => ?_⟩
      obtain ⟨j, rfl⟩ : ∃ j : Nat, r' = (j : Int) := ⟨r'.toNat, by omega⟩
      have hj : j < 26 := by omega
      refine ⟨lettersS, _, 97 + j, rfl, rfl, szOk letters_len, atI_nat (letters_at hj), nm, _, rfl, rfl, ?_, ?_⟩
      · show nm.length + 1 ≤ sizeLine
        exact szOk (by omega)
      · refine ⟨nm ++ ⟨#[97 + j]⟩, _, rfl, alpha_app an hj, ?_, P3, k2.trans k3⟩
        rw [app_len, ln]
        rfl
    · rintro σ H2 ⟨nm, y, rfl, an, ln, P2, k2⟩
      refine ⟨Nat.zero_le _, fun l hl => ?_⟩
      have ol := P2.off hl
      have hl0 := k2.free hl ol
      refine ⟨_, rfl, n, rfl, by omega, by omega, for_range (lo := 0) (n := (n : Int).toNat) (fun i σ H' => ∃ (zs : List Str) (y : Option V),
        σ = [some (.ref a.p), some (.int n), some (.str lettersS), some (.str nm), y, some (.ref l)] ∧ zs.length = i ∧ zs.Nodup ∧ (∀ z ∈ zs, GoodName z) ∧ H' l = some (.lst (zs.map V.str)) ∧ Pool H' a (c + 5 + i * 5) ∧ Kp a H H')
        ⟨[], _, rfl, rfl, List.nodup_nil, (fun z hz => absurd hz List.not_mem_nil), upd_same, ((P2.mono (by omega)).upd ol), k2.mut hl0⟩ ?_ ?_⟩
      · rintro i σ H3 hi ⟨zs, y', rfl, lz, nz, gz, hz, P3, k3⟩
        refine ⟨_, rfl, .inl ⟨rfl, _, SqL.of hz⟩, _, rfl, _, rfl, _, rfl, a, _, nm, l, zs, rfl, P3, by omega, hz, ol, an, by omega, by omega, fun H4 z g4 n4 P4 k4 => ?_⟩
        have hz4 := k4 _ _ hz ol
        refine ⟨l, _, _, rfl, rfl, hz4, szLt (by rw [List.length_map]; omega), zs ++ [z], _, rfl, ?_, ?_, ?_, ?_, ?_, ?_⟩
        · rw [List.length_append, lz]
          rfl
        · rw [List.nodup_append]
          refine ⟨nz, by simp, fun x hx y hy e => ?_⟩
          have : y = z := by simpa using hy
          rw [this] at e
          exact n4 (by rw [← e]; exact hx)
        · intro x hx
          rcases List.mem_append.mp hx with hx | hx
          · exact gz x hx
          · have : x = z := by simpa using hx
            rw [this]
            exact g4
        · rw [upd_same, List.map_append]
          rfl
        · rw [show c + 5 + (i + 1) * 5 = c + 5 + i * 5 + 5 by omega]
          exact P4.upd ol
        · exact (k3.trans k4).mut hl0
      · rintro σ H3 ⟨zs, y', rfl, lz, nz, gz, hz, P3, k3⟩
        rw [Int.toNat_natCast] at lz P3
        exact ⟨_, rfl, q _ l zs P3 k3 hz ol nz gz lz⟩
end

/-! ### t[::-1], t a tuple -/
namespace BkT
open PySem PySem.Spec PyProof.Rows L2
section
variable {prog : Program} {w : World} {A : Around} {E : Value → Shared → Prop} {s : Shared}
theorem fm {α β : Type} {f g : α → Option β} : ∀ {l : List α}, (∀ x ∈ l, f x = g x) → l.filterMap f = l.filterMap g
  | [], _ => rfl
  | x :: r, h => by
    rw [List.filterMap_cons, List.filterMap_cons, h x List.mem_cons_self, fm fun y hy => h y (List.mem_cons_of_mem _ hy)]
theorem adj (n : Nat) : Builtin.Slice.sliceAdjust none none (-1) (n : Int) = ((n : Int) - 1, -1) := by
  unfold Builtin.Slice.sliceAdjust
  simp
theorem plc (n : Nat) : Builtin.Slice.slicePlaces ((n : Int) - 1) (-1) (-1) = n := by
  unfold Builtin.Slice.slicePlaces
  simp
  omega
theorem picked (xs : Array Value) : (List.range xs.size).filterMap (fun (k : Nat) => xs[(((xs.size : Int) - 1) + (k : Int) * (-1)).toNat]?) = xs.toList.reverse := by
  have h : (List.range xs.size).filterMap (fun (k : Nat) => xs[(((xs.size : Int) - 1) + (k : Int) * (-1)).toNat]?) = (List.range xs.size).filterMap ((fun j => xs[j]?) ∘ fun k => xs.size - 1 - k) := by
    refine fm fun k hk => ?_
    have := List.mem_range.mp hk
    show xs[(((xs.size : Int) - 1) + (k : Int) * (-1)).toNat]? = xs[xs.size - 1 - k]?
    congr 1
    omega
  rw [h, ← List.filterMap_map, show ((List.range xs.size).map fun k => xs.size - 1 - k) = (List.range xs.size).reverse from by
    refine List.ext_getElem (by simp) fun i h1 h2 => ?_
    simp, List.filterMap_reverse]
  congr 1
  have := pick_run xs 0 xs.size
  rw [List.filterMap_map, List.drop_zero, List.take_of_length_le (by simp)] at this
  rw [← this]
  refine fm fun k _ => ?_
  show xs[k]? = xs[0 + k]?
  rw [Nat.zero_add]
theorem got {t sl : Addr} {items : Array Value} {vk : Value} {Q : Value → Shared → Prop} (ht : IsTup s.heap t items) (hs : s.heap.IsSliceOf sl .none .none vk) (pk : IsPart vk (some (-1)))
    (h : Q (.ref s.heap.objs.size) { s with heap := s.heap.push { cls := .type "tuple", data := .seq items.toList.reverse.toArray } }) (hz : items.size ≤ sizeLine) : wpAny (model prog w) A (getItem (.ref t) (.ref sl)) Q E s := by
  obtain ⟨os, hos, hcs, hds⟩ := id hs
  have hTs : s.TypeIs (.ref sl) "slice" := ⟨os, hos, hcs⟩
  cases pk with
  | int i tk =>
  unfold getItem
  try with_reducible refine wpAny_holding ?_
  first | refine wpAny_bind (wpAny_pure ?_) | skip
  refine wpAny_bind (wpAny_sequenceKey ht.typeIs (by decide) ?_)
  refine wpAny_bind (wpAny_callSpecial?_slot (name := Str.ofString "__getitem__") ht.typeIs PyProof.Rows.slot_tuple_getitem
    (wpAny_call_entry PyProof.Rows.slot_tuple_getitem ht.typeIs entry_tuple_getitem ?_ (args_tuple_getitem _ _)))
  change wpAny _ _ (Builtin.Tuple.tupleItemsOf (.ref t) >>= _) _ _ s
  refine wpAny_bind (tupleItemsOf_ ht (wpAny_bind (wpAny_typeOf hTs ?_)))
  rw [if_pos (by decide)]
  refine wpAny_bind ?_
  unfold Builtin.Slice.sliceApplied Builtin.Slice.sliceFields
  refine wpAny_bind (wpAny_bind (wpAny_field hos hds (x := .none) rfl (wpAny_bind (wpAny_field hos hds (x := .none) rfl (wpAny_bind (wpAny_field hos hds (x := .int (-1) tk) rfl (wpAny_pure ?_)))))))
  refine wpAny_bind (slicePart_int ?_)
  change wpAny _ _ (if ((-1 : Int) == 0) = true then _ else _) _ _ s
  rw [if_neg (by decide)]
  refine wpAny_bind (slicePart_none (wpAny_bind (slicePart_none (wpAny_bind (wpAny_pure ?_)))))
  change wpAny _ _ (match Builtin.Slice.sliceAdjust none none (-1) (items.size : Int) with | (lo, hi) => pure (lo, (-1 : Int), Builtin.Slice.slicePlaces lo hi (-1))) _ _ s
  rw [adj]
  change wpAny _ _ (pure (((items.size : Int) - 1), (-1 : Int), Builtin.Slice.slicePlaces ((items.size : Int) - 1) (-1) (-1))) _ _ s
  rw [plc]
  refine wpAny_pure ?_
  change wpAny _ _ (if (((items.size : Int) - 1) == 0 && (-1 : Int) == 1 && items.size == items.size) = true then _ else _) _ _ s
  rw [if_neg (by simp)]
  rw [picked]
  refine wpAny_bind ?_
  exact wpAny_newObj_type (wpAny_pure ⟨_, rfl, wpAny_pure h⟩) (by change items.toList.reverse.toArray.size ≤ sizeLine; simp; exact hz)
end
section
variable {X : Cx} {e : Expr} {te : TE} {tk : TO} {pos p2 p4 p5 : Pos} {j : Nat}
def tBack (K : PySem.W.Frag) (te : TE) (tk : TO) : TE := fun σ H Q => te σ H fun x H1 => tk σ H1 fun o H2 => o = some (-1) ∧ ∃ a xs, x = .ref a ∧ SqT K H2 a xs ∧ ∀ p, H2 p = none → Q (.ref p) (L2.upd H2 p (.tup xs.reverse))
theorem pe_back (he : PE X e te) (hk : PO X (some (.UnaryOp .USub (.Constant (.int 1) j p4) p5)) tk) : PE X (.Subscript e (.Slice none none (some (.UnaryOp .USub (.Constant (.int 1) j p4) p5)) p2) pos) (tBack X.K te tk) := by
  refine ⟨fun pins s σ H Q I h => ?_⟩
  refine Subscript_ (L2.thn (he.run pins s σ H _ I h) fun v s1 y => ?_)
  obtain ⟨x, H1, I1, r1, q1⟩ := y
  refine wpAny_Slice ?_
  rw [evalPart_none]
  refine wpAny_pure (wpAny_pure (L2.thn (hk.run pins s1 σ H1 _ I1 q1) fun vk s2 z => ?_))
  obtain ⟨o, H2, I2, pk, rfl, a, xs, rfl, hx, q⟩ := z
  cases r1
  have I3 : Inv X pins σ H2 { s2 with heap := s2.heap.push { cls := .type "slice", data := .fields #[.none, .none, vk] } } := I2.kept (t' := s2.toks) fun b ob q => Heap.get?_push_of_some _ q
  obtain ⟨its, r, ht, hz⟩ := I3.tuple hx
  have hl : its.toArray.size = xs.length := by rw [List.size_toArray]; exact r.length.symm
  change wpAny (model X.prog X.w) X.A (subscriptTail e (.Slice none none (some (.UnaryOp .USub (.Constant (.int 1) j p4) p5)) p2) (.ref a) (.ref s2.heap.objs.size)) (EP X pins σ Q) X.xe { s2 with heap := s2.heap.push { cls := .type "slice", data := .fields #[.none, .none, vk] } }
  refine tail_any (ops := [.ref a, .ref s2.heap.objs.size]) ht.typeIs PyProof.Rows.slot_tuple_getitem.lookup (got ht (Heap.IsSliceOf.new ..) pk ?_ (by rw [hl]; exact hz)) (by with_unfolding_all rfl)
  refine ⟨.ref _, _, I3.laid (o := .tup xs.reverse) (t' := s2.toks) (fun b ob q => Heap.get?_push_of_some _ q) (Nat.le_refl _) ?_, rfl, q _ (I3.hok.fresh (Nat.le_refl _))⟩
  refine ⟨by rw [List.length_reverse]; exact hz, its.reverse, ?_, IsTup.new _ _⟩
  exact r.reverse
end
end BkT

/-! ### tuple * k; tuple(d); a, b, *c = t -/
namespace R22
open PySem PySem.Spec PyProof.Rows L2
def rRepA (K : PySem.W.Frag) : R2 := fun x y H Q => ∃ l k xs, x = .ref l ∧ y = .int k ∧ SqT K H l xs ∧ xs ≠ [] ∧ 1 ≤ k ∧ k ≤ 1000 ∧ xs.length ≤ 1000 ∧ ((k = 1 ∧ Q (.ref l) H) ∨ (1 < k ∧ ∀ p, H p = none → Q (.ref p) (L2.upd H p (.tup (List.replicate k.toNat xs).flatten))))
theorem mul1 (l : Addr) (o : Obj) (items : Array Value) (n : Nat) (hc : o.cls = .type "tuple") (hd : o.data = .seq items n) (u : Tok) :
    Meets (Builtin.«tuple.__mul__» ⟨[.ref l, .int 1 u], []⟩) (fun _ R s => s.heap.get? l = some o ∧ R (.ok (.ret (.ref l))) s) :=
  .of_wp fun prog w A R s hyp => by
    obtain ⟨hp, gg, dd, tt, oo⟩ := s
    obtain ⟨at1, hyp⟩ := hyp
    have ix := AutoSeq1.idx_int
    obtain ⟨cls, di, da, sl⟩ := o
    simp only at hc hd
    subst hc hd
    wp_walk using AutoSeq1.wpAny_loadPart' at1
    exact ⟨_, rfl, hyp⟩
section
variable {X : Cx}
theorem op_repA : OpR X (binaryOp .Mult) (rRepA X.K) := by
  intro pins s σ H x y v u Q I rx ry hyp
  obtain ⟨l, k, xs, e1, e2, hT, hne, b1, b2, hz, hyp⟩ := hyp
  rcases hyp with ⟨k1, q⟩ | ⟨k1, q⟩
  · subst e1 e2 k1
    cases rx
    obtain ⟨t, rfl⟩ := ry
    obtain ⟨its, rv, ⟨ob, at1, hc, n, hd⟩, _⟩ := I.tuple hT
    have at2 := at1
    have ty : s.TypeIs (.ref l) "tuple" := ⟨ob, at1, hc⟩
    obtain ⟨cls, di, da, sl⟩ := ob
    simp only at hc hd
    subst hc hd
    exact wpAny_binaryOp_repeat_ref (T := "tuple") (U := "int") (by decide) ty (fun s' => typeIs_int s' 1 t) noFill_tuple_mul F.fills_int_mul F.slot_int_rmul repeat_tuple F.slot_int_index.lookup
      (call_meets F.slot_int_rmul (typeIs_int s 1 t) F.entry_int_rmul (F.args_int_rmul_2 _ _) (int_rmul_tuple 1 t l its.toArray n di sl)
        ⟨at1, rfl, ty, call_meets F.slot_tuple_mul ty F.entry_tuple_mul (F.args_tuple_mul_2 _ _) (mul1 l _ _ _ rfl rfl t) ⟨at2, .ref l, H, I, rfl, q⟩⟩)
  · exact op_repT pins s σ H x y v u Q I rx ry ⟨l, k, xs, e1, e2, hT, hne, by omega, b2, hz, q⟩
end
/-! tuple(d) -/
section
variable {prog : Program} {w : World} {A : Around} {E : Value → Shared → Prop} {s : Shared} {T : String} {r d : Addr} {n : Nat} {P : Nat → Value → Prop} {OK : Heap → Prop}
theorem collected {Q : List Value → Shared → Prop} (src : PySem.W.KdlSrc prog w T r d n P OK) (hh : A.handled = none) (ok : OK s.heap) (small : n ≤ sizeLine)
    (k : ∀ (g : Heap) (tk : Nat) (acc : Array Value), (∀ b o, s.heap.get? b = some o → g.get? b = some o) → ItemsOf P acc n → Q acc.toList { s with heap := g, toks := tk }) :
    wpAny (model prog w) A (collect (.ref r)) Q E s := by
  obtain ⟨l1, l2⟩ := src.there _ ok
  unfold collect
  refine wpAny_bind (wpAny_runValue (codeAny_builtin F.entry_proto_collect ?_)); rw [Around.under_plainId F.plain_proto_collect _]
  change wpAny _ A.in1 (newList [] >>= fun x => again (.builtin "list.__iadd__" ⟨[x, .ref r], []⟩)) _ _ s
  refine wpAny_bind (wpAny_newObj_type (wpAny_pure ⟨plainId_quiet F.plain_list_iadd _, codeAny_builtin F.entry_list_iadd ?_⟩))
  rw [Around.under_plainId F.plain_list_iadd _]
  change wpAny _ A.in1 (Builtin.List.listExtendWith (.ref s.heap.objs.size) (.ref r) (.ref s.heap.objs.size)) _ _ _
  have old : ∀ b o, s.heap.get? b = some o → (s.heap.push { cls := .type "list", data := .seq ([] : List Value).toArray }).get? b = some o := fun b o q => Heap.get?_push_of_some _ q
  have fin : ∀ (g : Heap) (tk : Nat) (acc : Array Value) (c : Nat), (∀ b o, s.heap.get? b = some o → g.get? b = some o) → ItemsOf P acc n → g.get? s.heap.objs.size = some { cls := .type "list", dict := none, data := .seq acc c, slots := #[] } →
      wpAny (model prog w) A (do match (← load s.heap.objs.size).data with | Data.seq xs _ => pure xs.toList | _ => unsupported "internal:collect") Q E { s with heap := g, toks := tk } := fun g tk acc c kp ac at1 => wpAny_bind (wpAny_load at1 (wpAny_pure (k g tk acc kp ac)))
  refine wpAny_mono (PySem.W.kdl_extend (A := A) (R := fun f s2 => ∃ g tk acc c, f = .ok (.ret (.ref s.heap.objs.size)) ∧ s2 = { s with heap := g, toks := tk } ∧ (∀ b o, s.heap.get? b = some o → g.get? b = some o) ∧ ItemsOf P acc n ∧ g.get? s.heap.objs.size = some { cls := .type "list", dict := none, data := .seq acc c, slots := #[] })
    (s := { s with heap := s.heap.push { cls := .type "list", data := .seq ([] : List Value).toArray } }) src hh (src.keep _ _ ok fun b _ o q => old b o q) s.heap.objs.size (Nat.ne_of_gt l1) (Nat.ne_of_gt l2) _ 0 (Heap.get?_push_size _ rfl)
    (fun g tk acc c kp at1 ac => ⟨g, tk, acc, c, rfl, rfl, fun b o q => kp b o (Nat.ne_of_lt (Heap.lt_size q)) (old b o q), ac, at1⟩) small) (fun f s2 x => ?_) (fun e s2 x => ?_)
  · cases f with
    | done f =>
      obtain ⟨g, tk, acc, c, e1, rfl, kp, ac, at1⟩ := x
      cases e1
      exact fin g tk acc c kp ac at1
    | again c' =>
      refine ⟨x.1, codeAny_mono x.2 fun f' s3 y => ?_⟩
      obtain ⟨g, tk, acc, c, rfl, rfl, kp, ac, at1⟩ := y
      exact fin g tk acc c kp ac at1
  · obtain ⟨g, tk, acc, c, e1, _⟩ := x
    cases e1
theorem newed {Q : Value → Shared → Prop} (src : PySem.W.KdlSrc prog w T r d n P OK) (hh : A.handled = none) (ok : OK s.heap) (small : n ≤ sizeLine)
    (k : ∀ (g : Heap) (tk : Nat) (acc : Array Value), (∀ b o, s.heap.get? b = some o → g.get? b = some o) → ItemsOf P acc n → Q (.ref g.objs.size) { s with heap := g.push { cls := .type "tuple", data := .seq acc }, toks := tk }) :
    codeAny (model prog w) A (.call (.builtin "tuple.__new__") ⟨[.type "tuple", .ref r], []⟩) (wants Q E) s := by
  refine codeAny_of_tree ?_
  change wpAny _ A.in1 (do checkBuiltinCall "tuple.__new__" ⟨[.type "tuple", .ref r], []⟩; again (.builtin "tuple.__new__" ⟨[.type "tuple", .ref r], []⟩)) _ _ s
  refine wpAny_bind (wpAny_of_eq (F.newCall_tuple_1 _) (wpAny_pure ⟨plainId_quiet F.plain_tuple_new _, codeAny_builtin F.entry_tuple_new ?_⟩)); rw [Around.under_plainId F.plain_tuple_new _]
  have u1 := sub_tuple_self
  have u2 := init_tuple_lookup
  have u3 := madeHere_tuple
  have u4 : s.TypeIs (.ref r) T := src.type _ ok
  have u5 : A.in1.handled = none := hh
  have u6 := src.notTuple
  wp_walk using wpAny_typeOf u4, collected (A := A.in1) src u5 ok small
  intro g tk acc kp ac
  change wpAny _ _ (Builtin.Tuple.tupleExact acc.toList.toArray >>= fun x => ret x) _ _ _
  unfold Builtin.Tuple.tupleExact
  have ea : acc.toList.toArray = acc := by simp
  rw [ea]
  exact wpAny_bind (wpAny_newObj_type (wpAny_pure (k g tk acc kp ac)) (by change acc.size ≤ sizeLine; rw [ac.1]; exact small))
theorem told {Q : Value → Shared → Prop} (src : PySem.W.KdlSrc prog w T r d n P OK) (hh : A.handled = none) (ok : OK s.heap) (small : n ≤ sizeLine)
    (k : ∀ (g : Heap) (tk : Nat) (acc : Array Value), (∀ b o, s.heap.get? b = some o → g.get? b = some o) → ItemsOf P acc n → Q (.ref g.objs.size) { s with heap := g.push { cls := .type "tuple", data := .seq acc }, toks := tk }) :
    wpAny (model prog w) A (call (.type "tuple") [.ref r]) Q E s :=
  callType_codes (Q₁ := fun x s1 => s1.TypeIs x "tuple" ∧ Q x s1) F.called_tuple (F.typeCall_tuple_1 _) F.entry_object_init (newed (A := A.in1) src hh ok small fun g tk acc kp ac => ⟨⟨_, Heap.get?_push_size _ rfl, rfl⟩, k g tk acc kp ac⟩)
    fun x s1 y => ⟨y.1, F.args_object_init_2 x _, object_init_meets F.called_tuple.init.lookup F.called_tuple.made (by decide) prog w A.in1 _ s1 ⟨y.1, rfl, y.2⟩⟩
end
section
variable {X : Cx}
def rTupD : List V → Hp → VK → Prop := fun xs H Q => ∃ a kvs, xs = [.ref a] ∧ H a = some (.dK kvs) ∧ ∀ b, H b = none → Q (.ref b) (L2.upd H b (.tup (kvs.map fun z => kV z.1)))
theorem call_tuple_dict (hc : X.calm = true) : CallR X (.type "tuple") rTupD := by
  intro pins s σ H xs us Q I r hyp
  obtain ⟨a, kvs, e, hk, q⟩ := hyp
  subst e
  obtain ⟨u, eu, rx⟩ := vals1 r
  subst eu
  obtain rfl : u = Value.ref a := rx
  obtain ⟨small, lo, vs, rk, hd⟩ := (show ObjOk X.prog X.w H s.heap a (.dK kvs) from I.hok a _ hk)
  obtain ⟨ep, hat⟩ := hd.dictAt
  have ln : kvs.length = vs.length := Paired.length rk
  refine told (PySem.W.kdl_dict (knd := mixKind X.prog X.w) (kvs := vs) (ep := ep) lo) (I.ok.hd hc) hat (by rw [← ln]; exact small) fun g tk acc kp ac => ?_
  have I1 : Inv X pins σ H { s with heap := g, toks := tk } := I.kept kp
  refine ⟨.ref g.objs.size, L2.upd H g.objs.size (.tup (kvs.map fun z => kV z.1)), I1.laid (t' := tk) (fun b o q => Heap.get?_push_of_some _ q) (Nat.le_refl _) (show ObjOk X.prog X.w _ _ _ (.tup (kvs.map fun z => kV z.1)) from ⟨?_, acc.toList, ?_, ?_⟩), rfl, q _ (I1.hok.fresh (Nat.le_refl _))⟩
  · rw [List.length_map]
    exact small
  · have el : acc.toList.length = acc.size := by simp
    refine vals_of_at (by rw [List.length_map, el, ac.1, ln]) fun j x v h1 h2 => ?_
    obtain ⟨k, y, hky, hi⟩ := ac.2 j v (by rw [← Array.getElem?_toList]; exact h2)
    have e1 : (kvs.map fun z => kV z.1)[j]? = some (kV k) := by
      have := congrArg (fun l => (l[j]?).map kV) (KV.keys rk)
      simpa [List.getElem?_map, Option.map_map, Function.comp_def, hky] using this
    rw [e1] at h1
    cases h1
    exact keyIs_rel hi
  · rw [Array.toArray_toList]
    exact IsTup.new _ _
end
/-! a, .., *c = a tuple -/
theorem walk_from {prog : Program} {w : World} {A : Around} (hh : A.handled = none) (I ax : Addr) (hne : ax ≠ I) (items : Array Value) (k : Nat) (hk : k ≤ items.size) :
    Walks prog w A I [I, ax] [I] (items.size - k) (fun i v => items[k + i]? = some v) (fun i h => h.IsTupleIter I ax (k + i) ∧ h.IsTuple ax items) :=
  let W := Walks.tuple (prog := prog) (w := w) hh I ax hne items
  ⟨W.sub, fun i => W.frame (k + i), fun i s Q E hi st hQ => W.item (k + i) s Q E (by omega) st hQ,
    fun s Q E st hQ => W.done s Q E (by rw [show k + (items.size - k) = items.size by omega] at st; exact st) hQ, fun i => W.self (k + i)⟩
section
variable {prog : Program} {w : World} {A : Around} {E : Value → Shared → Prop} {s : Shared}
theorem items_star {t : Addr} {items : Array Value} {k : Nat} {Q : List Value → Shared → Prop} (hh : A.handled = none) (ht : IsTup s.heap t items) (hk : k ≤ items.size) (hz : items.size ≤ sizeLine)
    (hQ : ∀ (h' : Heap) (tk : Nat), (∀ b o, s.heap.get? b = some o → h'.get? b = some o) →
      Q (items.toList.take k ++ [.ref h'.objs.size]) { s with heap := h'.push { cls := .type "list", data := .seq (items.toList.drop k).toArray }, toks := tk }) :
    wpAny (model prog w) A (unpackItems (.ref t) (k + 1) (some k)) Q E s := by
  have hlt : t ≠ s.heap.objs.size := Nat.ne_of_lt ht.lt
  unfold unpackItems
  refine wpAny_bind ?_
  unfold notIterableAtAll
  refine wpAny_bind (wpAny_specialOf ht.typeIs slot_tuple_iter.lookup (wpAny_pure ?_))
  simp only [Bool.false_eq_true, if_false]
  refine wpAny_bind (wpAny_holding (iter_tuple ht ?_))
  refine wpAny_bind (wpAny_holding (draw_tuple hlt k 0 _ _ ⟨_, Heap.get?_push_size _ rfl, rfl, rfl⟩ (ht.push _) (by omega) fun g hit hs => ?_))
  rw [List.drop_zero, if_neg (by simp; omega)]
  have ht1 : IsTup g t items := (ht.push _).extBut hs.extBut hlt
  have l1 : s.heap.objs.size < g.objs.size := by obtain ⟨o, e, _⟩ := hit; exact Heap.lt_size e
  have l2 : t < g.objs.size := ht1.lt
  have hit1 : g.IsTupleIter s.heap.objs.size t (k + 0) := by rw [Nat.add_zero]; rw [Nat.zero_add] at hit; exact hit
  refine wpAny_bind (wpAny_holding (wpAny_collect_iter (T := "tuple_iterator") (.inr (.inr (.inr rfl))) (walk_from (A := A.in1) hh s.heap.objs.size t hlt items k hk).toS
    (fun _ _ st => let ⟨o, ho, hc, _⟩ := st.1; ⟨o, ho, hc⟩) ⟨hit1, ht1⟩ (fun b hb => ?_) (by simp) (fun s' acc hm ha => ?_) (by omega)))
  · simp only [List.mem_cons, List.not_mem_nil, or_false] at hb
    rcases hb with rfl | rfl
    · exact l1
    · exact l2
  · have ea : acc.toList = items.toList.drop k := by
      refine List.ext_getElem? fun j => ?_
      rw [List.getElem?_drop]
      by_cases hj : j < acc.size
      · have := ha.2 j acc[j] (by simp [hj])
        rw [Array.getElem?_toList, Array.getElem?_toList, this]
        simp [hj]
      · have h1 := ha.1
        rw [List.getElem?_eq_none (by simp; omega), List.getElem?_eq_none (by simp; omega)]
    rw [ea]
    have e0 : k + 1 - 1 - k = 0 := by omega
    simp only [e0, Nat.not_lt_zero, if_false, Nat.sub_zero]
    rw [List.take_of_length_le (Nat.le_refl _), List.drop_of_length_le (Nat.le_refl _)]
    refine wpAny_bind (wpAny_newObj_type (wpAny_pure ?_) (by change (items.toList.drop k).toArray.size ≤ sizeLine; simp; omega))
    obtain ⟨g1, gg, dd, tt, oo⟩ := s'
    obtain ⟨m1, m2, m3, m4, m5⟩ := hm
    simp only at m1 m2 m3 m4 m5 ⊢
    subst m2 m3 m4
    rw [List.append_nil]
    exact hQ g1 tt fun b o e => m1 b o (by simp; exact Nat.ne_of_lt (Heap.lt_size e)) (hs.extBut b o (Nat.ne_of_lt (Heap.lt_size e)) (Heap.get?_push_of_some _ e))
end
section
variable {X : Cx} {pos : Pos}
/-- (a, .., *c) = a tuple, k plain targets ahead of the last -/
def gStar (K : PySem.W.Frag) (k : Nat) (t : TGs) : TG := fun v σ H Q => ∃ a xs, v = .ref a ∧ SqT K H a xs ∧ k ≤ xs.length ∧ ∀ p, H p = none → t (xs.take k ++ [.ref p]) σ (L2.upd H p (.lst (xs.drop k))) Q
theorem pgs_star {e : Expr} {p : Pos} {t : TG} (h1 : PG X e t) (hs : (assignEach [.Starred e p] X.env).map (·.2) = [assign e X.env] := by rfl) : PGs X [.Starred e p] (gCons t gNil) := by
  refine ⟨fun pins s σ H vs us Q I r h => ?_⟩
  obtain ⟨v, vr, e1, h⟩ := h
  subst e1
  cases r with
  | cons r rr =>
    rw [hs]
    refine assignInOrder_cons (L2.thn (h1.run pins s σ H _ _ _ I r h) fun _ s1 y => ?_)
    obtain ⟨σ1, H1, I1, n1, q1⟩ := y
    subst n1
    cases rr
    exact assignInOrder_nil ⟨σ1, H1, I1, q1⟩
theorem pg_star {es : List Expr} {j k : Nat} {t : TGs} (hc : X.calm = true) (h : PGs X es t)
    (hn : (assignEach es X.env).length = k + 1 := by rfl) (hst : (assignEach es X.env).findIdx? (·.1) = some k := by rfl) : PG X (.Tuple es j pos) (gStar X.K k t) := by
  refine ⟨fun pins s σ H v u Q I r hw => ?_⟩
  obtain ⟨a, xs, e1, hq, hl, hw⟩ := hw
  subst e1
  cases r
  obtain ⟨its, rv, ht, hz⟩ := I.tuple hq
  rw [assign_Tuple]
  refine wpAny_bind (wpAny_standAt ?_)
  unfold unpack
  rw [hn, hst]
  refine wpAny_bind (wpAny_holding (items_star (I.ok.hd hc) ht (by have := rv.length; simp at *; omega) (by have := rv.length; simp at *; omega) fun h' tk kp => ?_))
  have I1 : Inv X pins σ H { s with heap := h', toks := tk } := I.kept kp
  have I2 := I1.laid (t' := tk) (h' := h'.push { cls := .type "list", data := .seq (its.drop k).toArray }) (fun b o q => Heap.get?_push_of_some _ q) (Nat.le_refl _) (show ObjOk X.prog X.w (L2.upd H h'.objs.size (.lst (xs.drop k))) _ h'.objs.size (.lst (xs.drop k)) from ⟨by rw [List.length_drop]; have := rv.length; simp at *; omega, its.drop k, _, rv.drop k, Heap.get?_push_size _ rfl⟩)
  refine h.run pins _ σ _ _ _ Q I2 ?_ (hw _ (I1.hok.fresh (Nat.le_refl _)))
  exact (rv.take k).append (.cons rfl .nil)
end
end R22

/-! ### cut, joined, repeated tuples -/
/-! what a cut, a joined, a repeated tuple tells, new or not -/
section
variable {K : PySem.W.Frag} {H : Hp}
theorem catQ {a b : Addr} {xs ys : List V} {Q : V → Hp → Prop} (ha : SqT K H a xs) (hb : SqT K H b ys) (q : ∀ c H', Same H H' → SqT K H' c (xs ++ ys) → Q (.ref c) H') :
    (xs = [] → Q (.ref b) H) ∧ (xs ≠ [] → ys = [] → Q (.ref a) H) ∧ (xs ≠ [] → ys ≠ [] → ∀ p, H p = none → Q (.ref p) (L2.upd H p (.tup (xs ++ ys)))) :=
  ⟨fun e => q b H (Same.refl _) (by rw [e]; exact hb), fun _ e => q a H (Same.refl _) (by rw [e, List.append_nil]; exact ha), fun _ _ p hp => q p _ (same_upd hp) (SqT.of upd_same)⟩
theorem slQ {a : Addr} {xs : List V} {lo hi : Option Int} {Q : V → Hp → Prop} (ha : SqT K H a xs) (q : ∀ c H', Same H H' → SqT K H' c (cutV xs lo hi) → Q (.ref c) H') :
    (HT.sIx xs.length 0 lo = 0 ∧ HT.sIx xs.length xs.length hi = xs.length → Q (.ref a) H) ∧ (¬ (HT.sIx xs.length 0 lo = 0 ∧ HT.sIx xs.length xs.length hi = xs.length) → ∀ p, H p = none → Q (.ref p) (L2.upd H p (.tup (cutV xs lo hi)))) :=
  ⟨fun e => q a H (Same.refl _) (by unfold cutV; rw [e.1, e.2, Nat.sub_zero, List.drop_zero, List.take_of_length_le (Nat.le_refl _)]; exact ha), fun _ p hp => q p _ (same_upd hp) (SqT.of upd_same)⟩
theorem repQ {a : Addr} {k : Int} {xs : List V} {Q : V → Hp → Prop} (ha : SqT K H a xs) (h1 : 1 ≤ k) (q : ∀ c H', Same H H' → SqT K H' c (List.replicate k.toNat xs).flatten → Q (.ref c) H') :
    (k = 1 ∧ Q (.ref a) H) ∨ (1 < k ∧ ∀ p, H p = none → Q (.ref p) (L2.upd H p (.tup (List.replicate k.toNat xs).flatten))) := by
  by_cases e : k = 1
  · subst e
    exact .inl ⟨rfl, q a H (Same.refl _) (by simpa using ha)⟩
  · exact .inr ⟨by omega, fun p hp => q p _ (same_upd hp) (SqT.of upd_same)⟩
variable {X : Cx}
def rCatQ (K : PySem.W.Frag) : R2 := fun x y H Q => ∃ a b xs ys, x = .ref a ∧ y = .ref b ∧ SqT K H a xs ∧ SqT K H b ys ∧ xs.length + ys.length ≤ sizeLine ∧ ∀ c H', Same H H' → SqT K H' c (xs ++ ys) → Q (.ref c) H'
theorem op_catQ : OpR X (binaryOp .Add) (rCatQ X.K) := fun pins s σ H x y v u Q I rx ry ⟨a, b, xs, ys, h1, h2, h3, h4, h5, q⟩ => op_catA pins s σ H x y v u Q I rx ry ⟨a, b, xs, ys, h1, h2, h3, h4, h5, catQ h3 h4 q⟩
def rSlQ (K : PySem.W.Frag) : V → Option Int → Option Int → Hp → VK → Prop := fun x lo hi H Q => ∃ a xs, x = .ref a ∧ SqT K H a xs ∧ ∀ c H', Same H H' → SqT K H' c (cutV xs lo hi) → Q (.ref c) H'
theorem slTQ (K : PySem.W.Frag) (h : X.K = K := by rfl) : SlR X (rSlQ K) := by
  subst h
  exact fun pins s σ H x v vl vu lo hi sl Q I rx hs pl pu ⟨a, xs, h1, h2, q⟩ => sl_tupA pins s σ H x v vl vu lo hi sl Q I rx hs pl pu ⟨a, xs, h1, h2, slQ h2 q⟩
theorem sl_tupQ : SlR X (rSlQ X.K) := fun pins s σ H x v vl vu lo hi sl Q I rx hs pl pu ⟨a, xs, h1, h2, q⟩ => sl_tupA pins s σ H x v vl vu lo hi sl Q I rx hs pl pu ⟨a, xs, h1, h2, slQ h2 q⟩
def rRepQ (K : PySem.W.Frag) : R2 := fun x y H Q => ∃ l k xs, x = .ref l ∧ y = .int k ∧ SqT K H l xs ∧ xs ≠ [] ∧ 1 ≤ k ∧ k ≤ 1000 ∧ xs.length ≤ 1000 ∧ ∀ c H', Same H H' → SqT K H' c (List.replicate k.toNat xs).flatten → Q (.ref c) H'
theorem op_repQ : OpR X (binaryOp .Mult) (rRepQ X.K) := fun pins s σ H x y v u Q I rx ry ⟨a, k, xs, h1, h2, h3, h4, h5, h6, h7, q⟩ => R22.op_repA pins s σ H x y v u Q I rx ry ⟨a, k, xs, h1, h2, h3, h4, h5, h6, h7, repQ h3 h5 q⟩
end

/-! ### things of any kind -/
inductive Th where
  | non
  | bl (b : Bool)
  | int (i : Int)
  | str (x : Str)
  | tup (ts : List Th)
  | lst
  | dic
mutual
/-- the value v is such a thing; no tuple of it is longer than N -/
inductive TAt (N : Nat) (K : PySem.W.Frag) (H : Hp) : V → Th → Prop where
  | non : TAt N K H .non .non
  | bl (b : Bool) : TAt N K H (.bl b) (.bl b)
  | int (i : Int) : TAt N K H (.int i) (.int i)
  | str (x : Str) (h : x.length ≤ 100) (c : ∀ c ∈ x.cps.toList, c < 1114112) : TAt N K H (.str x) (.str x)
  | tup {a : Addr} {xs : List V} {ts : List Th} (h : SqT K H a xs) (l : xs.length ≤ N) (t : TAll N K H xs ts) : TAt N K H (.ref a) (.tup ts)
  | lst {a : Addr} {xs : List V} (h : H a = some (.lst xs)) : TAt N K H (.ref a) .lst
  | dic {a : Addr} {kvs : List (Key × V)} (h : H a = some (.dK kvs)) : TAt N K H (.ref a) .dic
inductive TAll (N : Nat) (K : PySem.W.Frag) (H : Hp) : List V → List Th → Prop where
  | nil : TAll N K H [] []
  | cons {v : V} {vs : List V} {t : Th} {ts : List Th} (h : TAt N K H v t) (r : TAll N K H vs ts) : TAll N K H (v :: vs) (t :: ts)
end
section
variable {K : PySem.W.Frag} {H H' : Hp} {N N' : Nat}
theorem TAll.len : ∀ {vs : List V} {ts : List Th}, TAll N K H vs ts → vs.length = ts.length
  | _, _, .nil => rfl
  | _, _, .cons _ r => by rw [List.length_cons, List.length_cons, r.len]
theorem TAll.get : ∀ {vs : List V} {ts : List Th} {i : Nat} {v : V}, TAll N K H vs ts → vs[i]? = some v → ∃ t, ts[i]? = some t ∧ TAt N K H v t
  | _, _, _, _, .nil, h => by simp at h
  | _, _, 0, _, .cons (t := t) x _, h => by
    have e := Option.some.inj h
    subst e
    exact ⟨t, rfl, x⟩
  | _, _, i + 1, _, .cons _ r, h => by
    obtain ⟨t, h1, h2⟩ := r.get (i := i) (by simpa using h)
    exact ⟨t, by simpa using h1, h2⟩
theorem TAll.mem {vs : List V} {ts : List Th} (a : TAll N K H vs ts) {v : V} (h : v ∈ vs) : ∃ t, TAt N K H v t := by
  obtain ⟨i, hi⟩ := List.mem_iff_getElem?.mp h
  obtain ⟨t, _, x⟩ := a.get hi
  exact ⟨t, x⟩
theorem TAll.of : ∀ {vs : List V}, (∀ v ∈ vs, ∃ t, TAt N K H v t) → ∃ ts, TAll N K H vs ts
  | [], _ => ⟨[], .nil⟩
  | v :: vs, h => by
    obtain ⟨t, x⟩ := h v List.mem_cons_self
    obtain ⟨ts, r⟩ := TAll.of (vs := vs) fun y hy => h y (List.mem_cons_of_mem _ hy)
    exact ⟨t :: ts, .cons x r⟩
/-- a tuple of things is a thing -/
theorem TAt.mk {a : Addr} {xs : List V} (h : SqT K H a xs) (l : xs.length ≤ N) (all : ∀ v ∈ xs, ∃ t, TAt N K H v t) : ∃ t, TAt N K H (.ref a) t := by
  obtain ⟨ts, r⟩ := TAll.of all
  exact ⟨.tup ts, .tup h l r⟩
mutual
theorem TAt.keep (hN : N ≤ N') (e1 : ∀ a xs, SqT K H a xs → SqT K H' a xs) (e2 : ∀ a xs, H a = some (.lst xs) → ∃ ys, H' a = some (.lst ys)) (e3 : ∀ a kvs, H a = some (.dK kvs) → H' a = some (.dK kvs)) : ∀ {v : V} {t : Th}, TAt N K H v t → TAt N' K H' v t
  | _, _, .non => .non
  | _, _, .bl b => .bl b
  | _, _, .int i => .int i
  | _, _, .str x h c => .str x h c
  | _, _, .tup h l t => .tup (e1 _ _ h) (Nat.le_trans l hN) (TAll.keep hN e1 e2 e3 t)
  | _, _, .lst h => .lst (e2 _ _ h).choose_spec
  | _, _, .dic h => .dic (e3 _ _ h)
theorem TAll.keep (hN : N ≤ N') (e1 : ∀ a xs, SqT K H a xs → SqT K H' a xs) (e2 : ∀ a xs, H a = some (.lst xs) → ∃ ys, H' a = some (.lst ys)) (e3 : ∀ a kvs, H a = some (.dK kvs) → H' a = some (.dK kvs)) : ∀ {vs : List V} {ts : List Th}, TAll N K H vs ts → TAll N' K H' vs ts
  | _, _, .nil => .nil
  | _, _, .cons x r => .cons (TAt.keep hN e1 e2 e3 x) (TAll.keep hN e1 e2 e3 r)
end
theorem TAt.more (hN : N ≤ N') {v : V} {t : Th} (x : TAt N K H v t) : TAt N' K H v t := x.keep hN (fun _ _ h => h) (fun _ xs h => ⟨xs, h⟩) (fun _ _ h => h)
theorem TAt.same (s : Same H H') {v : V} {t : Th} (x : TAt N K H v t) : TAt N K H' v t := x.keep (Nat.le_refl _) (fun _ _ h => ssqt s h) (fun _ xs h => ⟨xs, s _ _ h⟩) (fun _ _ h => s _ _ h)
/-- draws leave a thing as it is -/
theorem TAt.kp {A : PA} {c c' : Nat} (P : Pool H A c) (P' : Pool H' A c') (k : Kp A H H') {v : V} {t : Th} (x : TAt N K H v t) : TAt N K H' v t := by
  refine x.keep (Nat.le_refl _) (fun _ _ h => (P.imm k).sq h) (fun a xs h => ?_) (fun a kvs h => k _ _ h (P.offo h fun _ q => by cases q))
  obtain ⟨gs, ss, st, ct, p1, p2, p3, _⟩ := P'.ex
  by_cases h1 : a = A.p
  · exact ⟨_, by rw [h1]; exact p1⟩
  · by_cases h2 : a = A.g
    · exact ⟨_, by rw [h2]; exact p2⟩
    · by_cases h3 : a = A.s
      · exact ⟨_, by rw [h3]; exact p3⟩
      · exact ⟨xs, k _ _ h ⟨h1, h2, h3⟩⟩
end
/-! isinstance, len of a thing -/
def tyn : Th → String
  | .non => "NoneType"
  | .bl _ => "bool"
  | .int _ => "int"
  | .str _ => "str"
  | .tup _ => "tuple"
  | .lst => "list"
  | .dic => "dict"
def isTh (nm : String) (t : Th) : Bool := tyn t == nm || (nm == "int" && tyn t == "bool")
def tyL : List String := ["tuple", "int", "bool", "str"]
theorem kit_th {K : PySem.W.Frag} {t : Th} {nm : String} (h : nm ∈ tyL) : PySem.W.kitOne K (.type (tyn t)) (.type nm) = some (isTh nm t) := by
  have key : ∀ a ∈ ["NoneType", "bool", "int", "str", "tuple", "list", "dict"], ∀ b ∈ tyL, kitB a b = some (a == b || (b == "int" && a == "bool")) := by decide +kernel
  have ht : tyn t ∈ ["NoneType", "bool", "int", "str", "tuple", "list", "dict"] := by cases t <;> simp [tyn]
  exact kit_ty (key _ ht _ h)
theorem ty_th {K : PySem.W.Frag} {H : Hp} {N : Nat} {v : V} {t : Th} (x : TAt N K H v t) : TyX K H v (.type (tyn t)) := by
  cases x with
  | non => exact .base .non
  | bl b => exact .base (.bl b)
  | int i => exact .base (.int i)
  | str x _ _ => exact .base (.str x)
  | tup h _ _ => exact ty_sqt h
  | lst h => exact .base (.lst h)
  | dic h => exact .base (.dK h)
section
variable {X : Cx}
def rIsT (K : PySem.W.Frag) : List V → Hp → VK → Prop := fun xs H Q => ∃ (v : V) (t : Th) (N : Nat) (nm : String), xs = [v, .ty nm] ∧ TAt N K H v t ∧ nm ∈ tyL ∧ Q (.bl (isTh nm t)) H
theorem call_isT : CallR X (.builtin "isinstance") (rIsT X.K) := fun pins s σ H xs us Q I r ⟨v, t, _, nm, e, x, h, q⟩ =>
  call_isi pins s σ H xs us Q I r ⟨v, .ty nm, .type (tyn t), .type nm, isTh nm t, e, .ty nm, ty_th x, kit_th h, q⟩
theorem isTK (K : PySem.W.Frag) (h : X.K = K := by rfl) : CallR X (.builtin "isinstance") (rIsT K) := by subst h; exact call_isT
def rLenX (K : PySem.W.Frag) : List V → Hp → VK → Prop := fun xs H Q => (∃ z, xs = [.str z] ∧ z.length ≤ sizeLine ∧ Q (.int z.length) H) ∨ (∃ p ys, xs = [.ref p] ∧ (SqL K H p ys ∨ SqT K H p ys) ∧ Q (.int ys.length) H)
theorem call_lenX : CallR X (.builtin "len") (rLenX X.K) := fun pins s σ H xs us Q I r h => h.elim (fun h => call_len_str pins s σ H xs us Q I r h) (fun h => call_len_seq pins s σ H xs us Q I r h)
theorem lenXK (K : PySem.W.Frag) (h : X.K = K := by rfl) : CallR X (.builtin "len") (rLenX K) := by subst h; exact call_lenX
end
/-! what a thing is, by the law -/
def rowB : Th → Int → Int → Bool
  | .tup ts, lo, hi => decide (lo ≤ ts.length) && decide ((ts.length : Int) ≤ hi)
  | _, _, _ => false
def nameB : Th → Bool
  | .str x => decide (1 ≤ x.length) && decide (x.length ≤ 8) && decide (x ∉ wordsL) && x.cps.toList.all fun c => decide (c ∈ lettersS.cps.toList)
  | _ => false

/-! ### own errors -/
structure XCls (K : PySem.W.Frag) (mg : Str → Option Value) (nm : Str) (C : Addr) : Prop where
  g : mg nm = some (.ref C)
  k : PySem.W.keepIn K (.ref C) = true
  b : PySem.W.subIn K (.ref C) (.type "BaseException") = some true
  t : PySem.W.typeIn K (.ref C) = some (.type "type")
  h : PySem.W.hasDictIn K C = true
theorem XCls.r {K : PySem.W.Frag} {mg : Str → Option Value} {nm : Str} {C : Addr} (_ : XCls K mg nm C) : RelV (.ref C) (.ref C) := rfl
/-- the error that is raised -/
structure XRai (K : PySem.W.Frag) (C : Addr) : Prop where
  x : PySem.W.excIn K C [.type "ValueError", .type "Exception", .type "BaseException", .type "object"] "ValueError.__new__" = true
  E : ExcC K C
  s : PySem.W.subIn K (.ref C) (.ref C) = some true
  v : PySem.W.subIn K (.ref C) (.type "ValueError") = some true
theorem XCls.exm {K : PySem.W.Frag} {mg : Str → Option Value} {nm : Str} {C D : Addr} {b : Bool} (c : XCls K mg nm C) (h : PySem.W.subIn K (.ref D) (.ref C) = some b) : PySem.W.exmOne K (.ref D) (.ref C) = some b :=
  PySem.W.exm_ref c.b c.h c.t h
theorem XCls.kit {K : PySem.W.Frag} {mg : Str → Option Value} {nm : Str} {C D : Addr} {b : Bool} (c : XCls K mg nm C) (r : XRai K D) (h : PySem.W.subIn K (.ref D) (.ref C) = some b) : PySem.W.kitOne K (.ref D) (.ref C) = some b := by
  have e := c.exm h
  unfold PySem.W.exmOne at e
  rw [if_pos (by rw [c.b] <;> rfl)] at e
  unfold PySem.W.kitOne
  by_cases q : (Value.ref D == Value.ref C) = true
  · rw [if_pos q]
    have q' : D = C := Value.ref.inj (eq_of_beq q)
    rw [q'] at h r
    rw [r.s] at h
    exact h
  · rw [if_neg q]
    exact e
theorem XRai.kit {K : PySem.W.Frag} {D : Addr} (r : XRai K D) : PySem.W.kitOne K (.ref D) (.type "ValueError") = some true := by
  unfold PySem.W.kitOne PySem.W.kitCls
  rw [if_neg (by intro q; exact absurd (eq_of_beq q) (by intro z; cases z))]
  change (if PySem.W.kitMeta "ValueError" = true then _ else _) = _
  rw [if_pos (by decide +kernel)]
  exact r.v
theorem zc_of {cls : Value} {d : Option Addr} {D : Addr} {oe : Obj} (hz : Zc cls d oe) (hp : cls = .ref D ∧ d = none) : Zc (.ref D) none oe := by
  obtain ⟨rfl, rfl⟩ := hp
  exact hz
theorem pss_when {X : Cx} {sts : List Stmt} {p : Prop} {t : TS} (h : p → PSs X sts t) : PSs X sts (fun D σ H => p ∧ t D σ H) := ⟨fun pins s σ H D I q => (h q.1).run pins s σ H D I q.2⟩
/-- a def that may raise, as callers see it -/
structure CalX (P : Program) (w : World) (K : PySem.W.Frag) (mg : Str → Option Value) (base : Heap) (k : Nat) (x : Str) (ps : List Str) (sp : Sp) where
  f : Addr
  fd : FuncData
  G : FnOk P w K mg base (L2.CX P w) k f fd ps sp
  g : mg x = some (.ref f)
  kp : PySem.W.keepIn K (.ref f) = true
  b : Binds K fd ps []
/-- the raised error, the base of all, two others -/
structure XSet (K : PySem.W.Frag) (mg : Str → Option Value) (nR nA nB : Str) where
  R : Addr
  T : Addr
  A : Addr
  B : Addr
  xR : XCls K mg nR R
  xT : XCls K mg "TreeError" T
  xA : XCls K mg nA A
  xB : XCls K mg nB B
  r : XRai K R
  sT : PySem.W.subIn K (.ref R) (.ref T) = some true
  sA : PySem.W.subIn K (.ref R) (.ref A) = some false
  sB : PySem.W.subIn K (.ref R) (.ref B) = some false

structure XOne (K : PySem.W.Frag) (mg : Str → Option Value) (nR : Str) where
  R : Addr
  xR : XCls K mg nR R
  r : XRai K R

/-! ### whole numbers, rows and names among things of any kind -/
def numB : Th → Int → Int → Bool
  | .int i, lo, hi => decide (lo ≤ i) && decide (i < hi)
  | _, _, _ => false
def wholeB : Th → Bool
  | .int _ => true
  | _ => false
section
variable {P : Program} {w : World} {K : PySem.W.Frag} {mg : Str → Option Value} {base : Heap}
theorem tup_or {N : Nat} {H : Hp} {v : V} {t : Th} (x : TAt N K H v t) : (∃ a xs ts, v = .ref a ∧ t = .tup ts ∧ SqT K H a xs ∧ xs.length ≤ N ∧ TAll N K H xs ts) ∨ isTh "tuple" t = false := by
  cases x with
  | tup h l r => exact .inl ⟨_, _, _, rfl, rfl, h, l, r⟩
  | _ => exact .inr (by first | rfl | decide | simp [isTh, tyn])
theorem str_or {N : Nat} {H : Hp} {v : V} {t : Th} (x : TAt N K H v t) : (∃ z, v = .str z ∧ t = .str z ∧ z.length ≤ 100 ∧ ∀ c ∈ z.cps.toList, c < 1114112) ∨ (isTh "str" t = false ∧ nameB t = false) := by
  cases x with
  | str z h c => exact .inl ⟨z, rfl, rfl, h, c⟩
  | _ => exact .inr ⟨by simp [isTh, tyn], rfl⟩
theorem row_no {t : Th} {lo hi : Int} (h : isTh "tuple" t = false) : rowB t lo hi = false := by
  cases t <;> first | rfl | (simp [isTh, tyn] at h)
theorem name_eq (z : Str) : nameB (.str z) = (decide (1 ≤ z.length) && decide (z.length ≤ 8) && decide (z ∉ wordsL) && z.cps.toList.all fun c => decide (c ∈ lettersS.cps.toList)) := rfl
theorem name_len {z : Str} (h : ¬ (1 ≤ z.length ∧ z.length ≤ 8)) : nameB (.str z) = false := by
  rw [name_eq]
  by_cases h1 : 1 ≤ z.length
  · rw [decide_eq_true h1, decide_eq_false fun h2 => h ⟨h1, h2⟩]
    rfl
  · rw [decide_eq_false h1]
    rfl
theorem name_word {z : Str} (h : z ∈ wordsL) : nameB (.str z) = false := by
  rw [name_eq]
  rw [decide_eq_false (p := z ∉ wordsL) (fun k => k h), Bool.and_false]
  rfl
theorem name_rest {z : Str} (h1 : 1 ≤ z.length) (h2 : z.length ≤ 8) (h3 : z ∉ wordsL) : nameB (.str z) = z.cps.toList.all fun c => decide (c ∈ lettersS.cps.toList) := by
  rw [name_eq]
  rw [decide_eq_true h1, decide_eq_true h2, decide_eq_true h3]
  rfl
theorem int_v {N : Nat} {H : Hp} {v : V} {i : Int} (x : TAt N K H v (.int i)) : v = .int i := by
  cases x
  rfl
end


/-! ### programs among things of any kind -/
def testsL : List Str := ["is", "not", "under"]
def asksL : List Str := ["can", "last"]
def fstS : Th → Str
  | .tup (.str z :: _) => z
  | _ => Str.ofString ""
def ofB (t : Th) (zs : List Str) : Bool := match t with
  | .str z => nameB (.str z) && decide (z ∈ zs)
  | _ => false
def worthB (t : Th) (cs : List Str) : Bool := match t with
  | .tup [a, b] => ofB a cs && numB b (-8) 9
  | t => numB t 0 9
def testB (t : Th) (cs : List Str) : Bool := match t with
  | .tup [a, .str x, c] => ofB a cs && (decide (x ∈ testsL) && worthB c cs)
  | _ => false
def setRowB (t : Th) (cs : List Str) : Bool := match t with
  | .tup [a, b] => ofB a cs && worthB b cs
  | _ => false
def cellB (t : Th) : Bool := match t with
  | .tup [a, .int n, c] => nameB a && (numB (.int n) 1 10 && numB c 0 n)
  | _ => false
def commandB (t : Th) (cs : List Str) : Bool := match t with
  | .tup [a, .tup ts, .tup ss] => nameB a && (decide (ts.length ≤ 4) && (decide (ss.length ≤ 4) && (ts.all (testB · cs) && (ss.all (setRowB · cs) && decide (ss.map fstS).Nodup))))
  | _ => false
def askB (t : Th) (cs ms : List Str) (keeps : Bool) : Bool := match t with
  | .tup [.str x, b] => decide (x ∈ asksL) && (ofB b ms && (keeps || decide (x = Str.ofString "can")))
  | .tup [_, _] => false
  | t => testB t cs
def askRowB (t : Th) (cs ms : List Str) (keeps : Bool) : Bool := match t with
  | .tup as => decide (as.length ≤ 4) && as.all (askB · cs ms keeps)
  | _ => false
def markB (t : Th) (cs ms : List Str) (keeps : Bool) : Bool := match t with
  | .tup [a, .tup rows] => nameB a && (decide (rows.length ≤ 4) && rows.all (askRowB · cs ms keeps))
  | _ => false
def progB (t : Th) : Bool := match t with
  | .tup [.tup cs, .tup ms, .tup ks, .bl keeps] => decide (1 ≤ cs.length) && (decide (cs.length ≤ 4) && (cs.all cellB && (decide (ms.length ≤ 8) && (ms.all (commandB · (cs.map fstS)) && (decide (ks.length ≤ 8) && (ks.all (markB · (cs.map fstS) (ms.map fstS) keeps) &&
      (decide (cs.map fstS).Nodup && (decide (ms.map fstS).Nodup && decide (ks.map fstS).Nodup))))))))
  | _ => false
section
variable {N : Nat} {K : PySem.W.Frag} {H : Hp}
theorem row_tup {v : V} {t : Th} {lo hi : Int} (x : TAt N K H v t) (h : rowB t lo hi = true) : ∃ a xs ts, v = .ref a ∧ t = .tup ts ∧ SqT K H a xs ∧ TAll N K H xs ts ∧ lo ≤ xs.length ∧ (xs.length : Int) ≤ hi := by
  rcases tup_or x with ⟨a, xs, ts, rfl, rfl, hx, hl, hall⟩ | ht
  · have h' : (decide (lo ≤ ts.length) && decide ((ts.length : Int) ≤ hi)) = true := h
    rw [Bool.and_eq_true, ← hall.len] at h'
    exact ⟨a, xs, ts, rfl, rfl, hx, hall, of_decide_eq_true h'.1, of_decide_eq_true h'.2⟩
  · rw [row_no ht] at h
    cases h
theorem row_eq {ts : List Th} {lo hi : Int} : rowB (.tup ts) lo hi = (decide (lo ≤ ts.length) && decide ((ts.length : Int) ≤ hi)) := rfl
theorem row2 {v : V} {t : Th} (x : TAt N K H v t) (h : rowB t 2 2 = true) : ∃ a x0 x1 t0 t1, v = .ref a ∧ t = .tup [t0, t1] ∧ SqT K H a [x0, x1] ∧ TAt N K H x0 t0 ∧ TAt N K H x1 t1 := by
  obtain ⟨a, xs, ts, rfl, rfl, hx, hall, l0, l1⟩ := row_tup x h
  cases hall with
  | nil => simp at l0
  | cons y0 r => cases r with
    | nil => simp at l0
    | cons y1 r => cases r with
      | nil => exact ⟨a, _, _, _, _, rfl, rfl, hx, y0, y1⟩
      | cons y2 r => simp at l1; omega
theorem row3 {v : V} {t : Th} (x : TAt N K H v t) (h : rowB t 3 3 = true) : ∃ a x0 x1 x2 t0 t1 t2, v = .ref a ∧ t = .tup [t0, t1, t2] ∧ SqT K H a [x0, x1, x2] ∧ TAt N K H x0 t0 ∧ TAt N K H x1 t1 ∧ TAt N K H x2 t2 := by
  obtain ⟨a, xs, ts, rfl, rfl, hx, hall, l0, l1⟩ := row_tup x h
  cases hall with
  | nil => simp at l0
  | cons y0 r => cases r with
    | nil => simp at l0
    | cons y1 r => cases r with
      | nil => simp at l0
      | cons y2 r => cases r with
        | nil => exact ⟨a, _, _, _, _, _, _, rfl, rfl, hx, y0, y1, y2⟩
        | cons y3 r => simp at l1; omega
theorem row4 {v : V} {t : Th} (x : TAt N K H v t) (h : rowB t 4 4 = true) : ∃ a x0 x1 x2 x3 t0 t1 t2 t3, v = .ref a ∧ t = .tup [t0, t1, t2, t3] ∧ SqT K H a [x0, x1, x2, x3] ∧ TAt N K H x0 t0 ∧ TAt N K H x1 t1 ∧ TAt N K H x2 t2 ∧ TAt N K H x3 t3 := by
  obtain ⟨a, xs, ts, rfl, rfl, hx, hall, l0, l1⟩ := row_tup x h
  cases hall with
  | nil => simp at l0
  | cons y0 r => cases r with
    | nil => simp at l0
    | cons y1 r => cases r with
      | nil => simp at l0
      | cons y2 r => cases r with
        | nil => simp at l0
        | cons y3 r => cases r with
          | nil => exact ⟨a, _, _, _, _, _, _, _, _, rfl, rfl, hx, y0, y1, y2, y3⟩
          | cons y4 r => simp at l1; omega
theorem two_no {t : Th} (h : rowB t 2 2 = false) : ∀ a b, t ≠ .tup [a, b] := fun a b e => by
  rw [e] at h
  cases h
theorem three_no {t : Th} (h : rowB t 3 3 = false) : ∀ a b c, t ≠ .tup [a, b, c] := fun a b c e => by
  rw [e] at h
  cases h
theorem four_no {t : Th} (h : rowB t 4 4 = false) : ∀ a b c d, t ≠ .tup [a, b, c, d] := fun a b c d e => by
  rw [e] at h
  cases h
theorem worth_no {t : Th} {cs : List Str} (h : rowB t 2 2 = false) : worthB t cs = numB t 0 9 := by
  unfold worthB
  split
  · exact absurd rfl (two_no h _ _)
  · rfl
theorem test_no {t : Th} {cs : List Str} (h : rowB t 3 3 = false) : testB t cs = false := by
  unfold testB
  split
  · exact absurd rfl (three_no h _ _ _)
  · rfl
theorem setRow_no {t : Th} {cs : List Str} (h : rowB t 2 2 = false) : setRowB t cs = false := by
  unfold setRowB
  split
  · exact absurd rfl (two_no h _ _)
  · rfl
theorem cell_no {t : Th} (h : rowB t 3 3 = false) : cellB t = false := by
  unfold cellB
  split
  · exact absurd rfl (three_no h _ _ _)
  · rfl
theorem command_no {t : Th} {cs : List Str} (h : rowB t 3 3 = false) : commandB t cs = false := by
  unfold commandB
  split
  · exact absurd rfl (three_no h _ _ _)
  · rfl
theorem ask_no {t : Th} {cs ms : List Str} {k : Bool} (h : rowB t 2 2 = false) : askB t cs ms k = testB t cs := by
  unfold askB
  split
  · exact absurd rfl (two_no h _ _)
  · exact absurd rfl (two_no h _ _)
  · rfl
theorem mark_no {t : Th} {cs ms : List Str} {k : Bool} (h : rowB t 2 2 = false) : markB t cs ms k = false := by
  unfold markB
  split
  · exact absurd rfl (two_no h _ _)
  · rfl
theorem prog_no {t : Th} (h : rowB t 4 4 = false) : progB t = false := by
  unfold progB
  split
  · exact absurd rfl (four_no h _ _ _ _)
  · rfl
theorem str_v {v : V} {z : Str} (x : TAt N K H v (.str z)) : v = .str z := by
  cases x
  rfl
theorem bl_v {v : V} {b : Bool} (x : TAt N K H v (.bl b)) : v = .bl b := by
  cases x
  rfl
theorem nameB_str {t : Th} (h : nameB t = true) : ∃ z, t = .str z := by
  cases t with
  | str z => exact ⟨z, rfl⟩
  | _ => cases h
theorem ofB_str {t : Th} {zs : List Str} (h : ofB t zs = true) : ∃ z, t = .str z := by
  cases t with
  | str z => exact ⟨z, rfl⟩
  | _ => cases h
/-- over a tuple of things, each turn telling f of its thing -/
theorem lc_thT {a : Addr} {xs : List V} {ts : List Th} {j : Nat} {tt : TT} {te : TE} {vs : List Nat} {σ : L2.St} {H1 : Hp} {D : Addr} {Qd : Hp → Prop} (f : Th → V) (hx : SqT K H1 a xs) (hall : TAll N K H1 xs ts) (hD : H1 D = none) (hn : xs.length ≤ 100000)
    (hw : ∀ x, wipe ((wipe σ vs).set j (some x)) vs = wipe σ vs)
    (turn : ∀ (x : V) (t : Th) (H : Hp), t ∈ ts → TAt N K H x t → Same H1 H → ∀ (N1 : V → Hp → Prop) (N2 : Hp → Prop), (∀ H', Same H H' → N1 (f t) H') → tt ((wipe σ vs).set j (some x)) H fun b H3 => if b = true then te ((wipe σ vs).set j (some x)) H3 N1 else N2 H3)
    (done : ∀ H, Same H1 H → H D = some (.lst (ts.map f)) → Qd H) :
    ∃ W : Nat → Nat → Hp → Prop, (∃ m, W 0 m (upd H1 D (.lst []))) ∧ ∀ i m H, W i m H →
      ((Itt K a).stop i H ∧ Qd H) ∨ ((Itt K a).go i H ∧ ∃ Nx : Hp → Prop, (∀ H', Nx H' → ∃ m', m' < m ∧ W (i + 1) m' H') ∧ ∀ x H', (Itt K a).yld i H x H' → (gName j) x (wipe σ vs) H' fun σ2 H2 => wipe σ2 vs = wipe σ vs ∧ tt σ2 H2 fun b H3 =>
        if b = true then te σ2 H3 fun y H4 => ∃ acc, H4 D = some (.lst acc) ∧ acc.length < sizeLine ∧ Nx (upd H4 D (.lst (acc ++ [y]))) else Nx H3) := by
  refine lc_tupS (fun i acc => acc = (ts.take i).map f) hx hD hn rfl hw (fun i x H acc hi s1 e _ N1 N2 k1 _ => ?_) (fun H acc s1 hD2 hl e => ?_)
  · obtain ⟨t, ht, xt⟩ := hall.get hi
    refine turn x t H (List.mem_of_getElem? ht) (xt.same s1) s1 N1 N2 fun H' s2 => k1 (f t) H' s2 ?_
    rw [e, List.take_add_one, ht, List.map_append]
    rfl
  · rw [e, hall.len, List.take_length] at hD2
    exact done H s1 hD2
theorem all_bl (p : Th → Bool) (ts : List Th) : ts.map (fun t => V.bl (p t)) = (ts.map p).map V.bl := by
  rw [List.map_map]
  rfl
theorem all_id (p : Th → Bool) (ts : List Th) : (ts.map p).all id = ts.all p := by
  rw [List.all_map]
  rfl
end

/-! ### comprehensions whose lists hold things -/
structure Tk (K : PySem.W.Frag) (H H' : Hp) : Prop where
  t : ∀ a xs, SqT K H a xs → SqT K H' a xs
  l : ∀ a xs, H a = some (.lst xs) → ∃ ys, H' a = some (.lst ys)
  d : ∀ a kvs, H a = some (.dK kvs) → H' a = some (.dK kvs)
section
variable {N : Nat} {K : PySem.W.Frag} {H H' H1 : Hp}
theorem Tk.trans (x : Tk K H H') (y : Tk K H' H1) : Tk K H H1 := ⟨fun a xs h => y.t a xs (x.t a xs h), fun a xs h => let ⟨ys, h1⟩ := x.l a xs h; y.l a ys h1, fun a kvs h => y.d a kvs (x.d a kvs h)⟩
theorem tk_same (s : Same H H') : Tk K H H' := ⟨fun _ _ h => ssqt s h, fun _ xs h => ⟨xs, s _ _ h⟩, fun _ _ h => s _ _ h⟩
theorem tk_list {p : Addr} {xs ys : List V} (h : H p = some (.lst xs)) : Tk K H (upd H p (.lst ys)) := ⟨fun _ _ q => (Imm.list h).sq q, fun a zs q => by
  by_cases e : a = p
  · exact ⟨ys, by rw [e, upd_same]⟩
  · exact ⟨zs, by rw [upd_ne e]; exact q⟩, fun a kvs q => by rw [upd_ne (ne_of h q (by intro z; cases z)).symm]; exact q⟩
theorem tk_kp {A : PA} {c c' : Nat} (P : Pool H A c) (P' : Pool H' A c') (k : Kp A H H') : Tk K H H' := ⟨fun _ _ h => (P.imm k).sq h, fun a xs h => by
  obtain ⟨gs, ss, st, ct, p1, p2, p3, _⟩ := P'.ex
  by_cases h1 : a = A.p
  · exact ⟨_, by rw [h1]; exact p1⟩
  · by_cases h2 : a = A.g
    · exact ⟨_, by rw [h2]; exact p2⟩
    · by_cases h3 : a = A.s
      · exact ⟨_, by rw [h3]; exact p3⟩
      · exact ⟨xs, k _ _ h ⟨h1, h2, h3⟩⟩, fun a kvs h => k _ _ h (P.offo h fun _ q => by cases q)⟩
theorem TAt.tk {v : V} {t : Th} (x : TAt N K H v t) (k : Tk K H H') : TAt N K H' v t := TAt.keep (Nat.le_refl _) k.t k.l k.d x
theorem TAll.tk {vs : List V} {ts : List Th} (x : TAll N K H vs ts) (k : Tk K H H') : TAll N K H' vs ts := TAll.keep (Nat.le_refl _) k.t k.l k.d x
theorem TAll.snoc {v : V} {t : Th} (y : TAt N K H v t) : ∀ {vs : List V} {ts : List Th}, TAll N K H vs ts → TAll N K H (vs ++ [v]) (ts ++ [t])
  | _, _, .nil => .cons y .nil
  | _, _, .cons x r => .cons x (TAll.snoc y r)
theorem lc_rangeT {lo : Int} {n j : Nat} {tt : TT} {te : TE} {vs : List Nat} {σ : L2.St} {H1 : Hp} {D : Addr} {Qd : Hp → Prop} {a : PA} {c0 : Nat} (k : Nat) (ok : Nat → Hp → List V → Prop) (st : ∀ i H H' acc, Tk K H H' → ok i H acc → ok i H' acc)
    (P0 : Pool H1 a c0) (hD : H1 D = none) (hn : n ≤ 100000) (h0 : ∀ H, ok 0 H []) (hw : ∀ x, wipe ((wipe σ vs).set j (some x)) vs = wipe σ vs)
    (turn : ∀ (i : Nat) (H : Hp) (acc : List V), i < n → Pool H a (c0 + i * k) → Kp a H1 H → ok i H acc → acc.length ≤ i → ∀ (N1 : V → Hp → Prop) (N2 : Hp → Prop),
      (∀ y H', Pool H' a (c0 + i * k + k) → Kp a H H' → ok (i + 1) H' (acc ++ [y]) → N1 y H') → (∀ H', Pool H' a (c0 + i * k + k) → Kp a H H' → ok (i + 1) H' acc → N2 H') →
      tt ((wipe σ vs).set j (some (.int (lo + i)))) H fun b H3 => if b = true then te ((wipe σ vs).set j (some (.int (lo + i)))) H3 N1 else N2 H3)
    (done : ∀ (H : Hp) (acc : List V), Pool H a (c0 + n * k) → Kp a H1 H → H D = some (.lst acc) → acc.length ≤ n → ok n H acc → Off a D → Qd H) :
    ∃ W : Nat → Nat → Hp → Prop, (∃ m, W 0 m (upd H1 D (.lst []))) ∧ ∀ i m H, W i m H →
      ((Itr lo n).stop i H ∧ Qd H) ∨ ((Itr lo n).go i H ∧ ∃ Nx : Hp → Prop, (∀ H', Nx H' → ∃ m', m' < m ∧ W (i + 1) m' H') ∧ ∀ x H', (Itr lo n).yld i H x H' → (gName j) x (wipe σ vs) H' fun σ2 H2 => wipe σ2 vs = wipe σ vs ∧ tt σ2 H2 fun b H3 =>
        if b = true then te σ2 H3 fun y H4 => ∃ acc, H4 D = some (.lst acc) ∧ acc.length < sizeLine ∧ Nx (upd H4 D (.lst (acc ++ [y]))) else Nx H3) := by
  have oD : Off a D := P0.off hD
  refine lc_range (lo := lo) (n := n) (fun i H => ∃ acc, Pool H a (c0 + i * k) ∧ Kp a H1 H ∧ H D = some (.lst acc) ∧ acc.length ≤ i ∧ ok i H acc) ⟨[], ?_, skp (same_upd hD), upd_same, Nat.le_refl _, h0 _⟩ (fun i H hi p => ?_) (fun H p => ?_)
  · rw [Nat.zero_mul]
    exact P0.upd oD
  · obtain ⟨acc, p1, p2, p3, p4, p5⟩ := p
    refine ⟨hw _, turn i H acc hi p1 p2 p5 p4 _ _ (fun y H' q1 q2 q3 => ⟨acc, q2 _ _ p3 oD, szLt (by omega), acc ++ [y], ?_, ?_, upd_same, ?_, st _ _ _ _ (tk_list (q2 _ _ p3 oD)) q3⟩) (fun H' q1 q2 q3 => ⟨acc, ?_, p2.trans q2, q2 _ _ p3 oD, by omega, q3⟩)⟩
    · rw [Nat.succ_mul, ← Nat.add_assoc]
      exact q1.upd oD
    · exact Kp.mut (p2.trans q2) hD
    · rw [List.length_append]
      show acc.length + 1 ≤ i + 1
      omega
    · rw [Nat.succ_mul, ← Nat.add_assoc]
      exact q1
  · obtain ⟨acc, p1, p2, p3, p4, p5⟩ := p
    exact done H acc p1 p2 p3 p4 p5 oD
theorem lc_listT {a : Addr} {xs : List V} {j : Nat} {tt : TT} {te : TE} {vs : List Nat} {σ : L2.St} {H1 : Hp} {D : Addr} {Qd : Hp → Prop} {A : PA} {c0 : Nat} (k : Nat) (ok : Nat → Hp → List V → Prop) (st : ∀ i H H' acc, Tk K H H' → ok i H acc → ok i H' acc)
    (P0 : Pool H1 A c0) (hx : H1 a = some (.lst xs)) (ox : Off A a) (hD : H1 D = none) (hn : xs.length ≤ 100000) (h0 : ∀ H, ok 0 H []) (hw : ∀ x, wipe ((wipe σ vs).set j (some x)) vs = wipe σ vs)
    (turn : ∀ (i : Nat) (x : V) (H : Hp) (acc : List V), xs[i]? = some x → Pool H A (c0 + i * k) → Kp A H1 H → ok i H acc → acc.length ≤ i → ∀ (N1 : V → Hp → Prop) (N2 : Hp → Prop),
      (∀ y H', Pool H' A (c0 + i * k + k) → Kp A H H' → ok (i + 1) H' (acc ++ [y]) → N1 y H') → (∀ H', Pool H' A (c0 + i * k + k) → Kp A H H' → ok (i + 1) H' acc → N2 H') →
      tt ((wipe σ vs).set j (some x)) H fun b H3 => if b = true then te ((wipe σ vs).set j (some x)) H3 N1 else N2 H3)
    (done : ∀ (H : Hp) (acc : List V), Pool H A (c0 + xs.length * k) → Kp A H1 H → H D = some (.lst acc) → acc.length ≤ xs.length → ok xs.length H acc → Off A D → Qd H) :
    ∃ W : Nat → Nat → Hp → Prop, (∃ m, W 0 m (upd H1 D (.lst []))) ∧ ∀ i m H, W i m H →
      ((Itl K a).stop i H ∧ Qd H) ∨ ((Itl K a).go i H ∧ ∃ Nx : Hp → Prop, (∀ H', Nx H' → ∃ m', m' < m ∧ W (i + 1) m' H') ∧ ∀ x H', (Itl K a).yld i H x H' → (gName j) x (wipe σ vs) H' fun σ2 H2 => wipe σ2 vs = wipe σ vs ∧ tt σ2 H2 fun b H3 =>
        if b = true then te σ2 H3 fun y H4 => ∃ acc, H4 D = some (.lst acc) ∧ acc.length < sizeLine ∧ Nx (upd H4 D (.lst (acc ++ [y]))) else Nx H3) := by
  have oD : Off A D := P0.off hD
  refine lc_list (xs := xs) (fun i H => ∃ acc, Pool H A (c0 + i * k) ∧ Kp A H1 H ∧ H D = some (.lst acc) ∧ acc.length ≤ i ∧ ok i H acc) ⟨[], ?_, skp (same_upd hD), upd_same, Nat.le_refl _, h0 _⟩ (fun i H _ p => ?_) (fun i x H hi p => ?_) (fun H p => ?_)
  · rw [Nat.zero_mul]
    exact P0.upd oD
  · obtain ⟨acc, p1, p2, _⟩ := p
    exact SqL.of (p2 _ _ hx ox)
  · obtain ⟨acc, p1, p2, p3, p4, p5⟩ := p
    have hil : i < xs.length := (List.getElem?_eq_some_iff.mp hi).1
    refine ⟨hw _, turn i x H acc hi p1 p2 p5 p4 _ _ (fun y H' q1 q2 q3 => ⟨acc, q2 _ _ p3 oD, szLt (by omega), acc ++ [y], ?_, ?_, upd_same, ?_, st _ _ _ _ (tk_list (q2 _ _ p3 oD)) q3⟩) (fun H' q1 q2 q3 => ⟨acc, ?_, p2.trans q2, q2 _ _ p3 oD, by omega, q3⟩)⟩
    · rw [Nat.succ_mul, ← Nat.add_assoc]
      exact q1.upd oD
    · exact Kp.mut (p2.trans q2) hD
    · rw [List.length_append]
      show acc.length + 1 ≤ i + 1
      omega
    · rw [Nat.succ_mul, ← Nat.add_assoc]
      exact q1
  · obtain ⟨acc, p1, p2, p3, p4, p5⟩ := p
    exact done H acc p1 p2 p3 p4 p5 oD
end

/-! ### lists of numbers compared -/
theorem dpa_ints {K : PySem.W.Frag} {H : Hp} : ∀ ns : List Int, DpAll K H (ns.map V.int) (ns.map PyData.int)
  | [] => .nil
  | x :: r => .cons (.int x) (dpa_ints r)
theorem dp_ints {K : PySem.W.Frag} {H : Hp} {a : Addr} {ns : List Int} (h : SqL K H a (ns.map V.int)) : Dp K H (.ref a) (.list (ns.map PyData.int)) := .lst h (dpa_ints ns)
theorem dp_intsT {K : PySem.W.Frag} {H : Hp} {a : Addr} {ns : List Int} (h : SqT K H a (ns.map V.int)) : Dp K H (.ref a) (.tuple (ns.map PyData.int)) := .tup h (dpa_ints ns)
theorem can_ints : ∀ ns : List Int, PyData.canLayAll0 (ns.map PyData.int) = true
  | [] => rfl
  | x :: r => by
    show (PyData.canLay0 (.int x) && PyData.canLayAll0 (r.map PyData.int)) = true
    rw [can_ints r]
    rfl
theorem dep_ints : ∀ ns : List Int, PyData.depthAll (ns.map PyData.int) = 0
  | [] => rfl
  | x :: r => by
    show max (PyData.depth (.int x)) (PyData.depthAll (r.map PyData.int)) = 0
    rw [dep_ints r]
    rfl
theorem shaped_ints (ns : List Int) : SeqAt.shaped (.list (ns.map PyData.int)) = true := by
  unfold SeqAt.shaped
  rw [show PyData.canLay0 (.list (ns.map PyData.int)) = true from can_ints ns, show PyData.depth (.list (ns.map PyData.int)) = 0 + 1 by rw [← dep_ints ns] <;> rfl]
  rfl
theorem shaped_intsT (ns : List Int) : SeqAt.shaped (.tuple (ns.map PyData.int)) = true := by
  unfold SeqAt.shaped
  rw [show PyData.canLay0 (.tuple (ns.map PyData.int)) = true from can_ints ns, show PyData.depth (.tuple (ns.map PyData.int)) = 0 + 1 by rw [← dep_ints ns] <;> rfl]
  rfl
theorem eqva_ints : ∀ ns ms : List Int, PyData.eqvAll (ns.map PyData.int) (ms.map PyData.int) = decide (ns = ms)
  | [], [] => rfl
  | [], _ :: _ => rfl
  | _ :: _, [] => rfl
  | x :: r, y :: t => by
    show ((x == y) && PyData.eqvAll (r.map PyData.int) (t.map PyData.int)) = _
    rw [eqva_ints r t]
    by_cases h : x = y
    · by_cases h2 : r = t
      · subst h h2
        simp
      · simp [h, h2]
    · simp [h]
theorem eqv_ints (ns ms : List Int) : PyData.eqv (.list (ns.map PyData.int)) (.list (ms.map PyData.int)) = decide (ns = ms) := eqva_ints ns ms
theorem eqv_intsT (ns ms : List Int) : PyData.eqv (.tuple (ns.map PyData.int)) (.tuple (ms.map PyData.int)) = decide (ns = ms) := eqva_ints ns ms

/-! ### sorted names rise -/
theorem nlt_trans {a b c : List Nat} (h1 : ¬ b < a) (h2 : ¬ c < b) : ¬ c < a := by
  rw [List.not_lt] at *
  exact List.le_trans h1 h2
theorem lt_of {a b : List Nat} (h : ¬ b < a) (n : a ≠ b) : a < b := by
  rw [List.not_lt] at h
  rcases List.le_iff_lt_or_eq.mp h with h | h
  · exact h
  · exact absurd h n
theorem rising_pw : ∀ (l : List Str) (p : Str), risingS p l = true → (p :: l).Pairwise (fun x y => ¬ y.cps.toList < x.cps.toList)
  | [], p, _ => List.pairwise_singleton _ _
  | x :: r, p, h => by
    have h' : (!Spec.ltCps x.cps.toList p.cps.toList && risingS x r) = true := h
    rw [Bool.and_eq_true, ltCps_eq] at h'
    have ih := rising_pw r x h'.2
    refine List.pairwise_cons.mpr ⟨fun y hy => ?_, ih⟩
    rcases List.mem_cons.mp hy with rfl | hy
    · exact notdec h'.1
    · exact nlt_trans (notdec h'.1) ((List.pairwise_cons.mp ih).1 y hy)
theorem sorted_rise {ys : List Str} (h : sortedS ys = true) (nd : ys.Nodup) (g : ∀ z ∈ ys, GoodName z) : RiseS ys := by
  refine ⟨?_, g⟩
  have pw : ys.Pairwise (fun x y => ¬ y.cps.toList < x.cps.toList) := by
    cases ys with
    | nil => exact List.Pairwise.nil
    | cons x r => exact rising_pw r x h
  exact (pw.and nd).imp fun {x y} h => lt_of h.1 fun e => h.2 (Str.ext' (Array.toList_inj.mp e))

namespace SAY
open PySem PySem.Spec PyProof.Rows L2
/-- a list compared with one of another length, or an empty one -/
theorem op_eqNil {X : Cx} (hu : X.A.units + 64 < cLine) : OpR X (compareOp .Eq) (fun x y H Q => ∃ a b xs, x = .ref a ∧ y = .ref b ∧ SqL X.K H a xs ∧ SqL X.K H b [] ∧ Q (.bl xs.isEmpty) H) := by
  intro pins s σ H x y v u Q I rx ry h
  obtain ⟨a, b, xs, rfl, rfl, ha, hb, q⟩ := h
  cases rx
  cases ry
  obtain ⟨its, r1, p1, _⟩ := I.list ha
  obtain ⟨jts, r2, p2, _⟩ := I.list hb
  cases r2
  have hA : X.A.units < cLine := by omega
  cases r1 with
  | nil => exact SeqAt.eq_listAt (e := fun _ => true) p1.isList p2.isList rfl hA (fun j h1 _ => absurd h1 (by simp)) ⟨.bl true, H, I, rfl, q⟩
  | cons _ _ => exact SeqAt.eq_list_lengthsAt p1.isList p2.isList (by simp) hA ⟨.bl false, H, I, rfl, q⟩
end SAY

/-! ### list != [], >= of numbers or texts, list.index in a comprehension -/
namespace EQL
open PySem PySem.Spec PyProof.Rows L2
theorem op_neNil {X : Cx} (hu : X.A.units + 64 < cLine) : OpR X (compareOp .NotEq) (fun x y H Q => ∃ a b xs, x = .ref a ∧ y = .ref b ∧ SqL X.K H a xs ∧ SqL X.K H b [] ∧ Q (.bl (!xs.isEmpty)) H) := by
  intro pins s σ H x y v u Q I rx ry h
  obtain ⟨a, b, xs, rfl, rfl, ha, hb, q⟩ := h
  cases rx
  cases ry
  obtain ⟨its, r1, p1, _⟩ := I.list ha
  obtain ⟨jts, r2, p2, _⟩ := I.list hb
  cases r2
  have hA : X.A.units < cLine := by omega
  cases r1 with
  | nil => exact SeqAt.RcNeAt.lists (e := fun _ => true) p1.isList p2.isList rfl hA (fun j h1 _ => absurd h1 (by simp)) _ _ _ _ ⟨.bl false, H, I, rfl, q⟩
  | cons _ _ => exact SeqAt.RcNeAt.lists_lengths p1.isList p2.isList (by simp) hA _ _ _ _ ⟨.bl true, H, I, rfl, q⟩
theorem op_geU {X : Cx} : OpR X (compareOp .GtE) (fun x y H Q => (∃ i j, x = .int i ∧ y = .int j ∧ Q (.bl (decide (j ≤ i))) H) ∨ (∃ i j : Str, x = .str i ∧ y = .str j ∧ Q (.bl (!decide (i.cps.toList < j.cps.toList))) H)) := by
  intro pins s σ H x y v u Q I rx ry h
  rcases h with h | h
  · exact op_ge pins s σ H x y v u Q I rx ry h
  · exact op_ge_str pins s σ H x y v u Q I rx ry h
theorem idxB {X : Cx} {o e : Expr} {es : List Expr} {to : TE} {t : TA} {apos cpos : Pos} (K : PySem.W.Frag) (ho : PE X o to) (ha : L2.PA X (e :: es) t) (h : X.K = K := by rfl)
    (hbase : attributeBase o "index" X.env (eval o X.env) = eval o X.env := by rfl)
    (hfew : ((backTo cpos (starEach (e :: es) X.env)).all (fun x => !x.1) && (backToKw cpos (keywordEach [] X.env)).all (fun x => x.1.isSome)
      && decide ((e :: es).length + ([] : List Keyword).length + (if ([] : List Keyword).isEmpty then 0 else 1) < 30)) = true := by rfl)
    (hline : (apos.endLine == cpos.line) = true := by rfl) (hs : starEach (e :: es) X.env = (false, eval e X.env) :: starEach es X.env := by rfl) (hplain : (backTo cpos (starEach es X.env)).any (·.1) = false := by rfl) :
    PE X (.Call (.Attribute o "index" apos) (e :: es) [] cpos) (tBM K "list" (rIndex K) to t) := by
  subst h
  exact pe_bm PySem.F.plainAttrs_list PySem.F.slot_list_index PySem.F.type_list_index mt_index ho ha hbase hfew hline hs hplain
end EQL

/-! ### a list whose first thing puts a token out -/
namespace RPL
open PySem PySem.Spec PyProof.Rows L2
theorem pa_cons1 {X : Cx} {a : Expr} {op : Operator} {r : R2} {c : Str} {j : Nat} {cp p : Pos} {es : List Expr} {ta : TE} {t : TA} (ho : OpR X (binaryOp op) r) (ha : PE X a ta) (hr : PAT X es t)
    (hs : starEach ((.BinOp a op (.Constant (.str c) j cp) p) :: es) X.env = (false, eval (.BinOp a op (.Constant (.str c) j cp) p) X.env) :: starEach es X.env := by rfl) : L2.PA X (.BinOp a op (.Constant (.str c) j cp) p :: es) (tCons (tOp r ta (tC (.str c))) t) := by
  refine ⟨fun pos pins s σ H Q I h => ?_⟩
  rw [hs]
  show wpAny _ _ (spliced ((false, eval (.BinOp a op (.Constant (.str c) j cp) p) X.env) :: backTo pos (starEach es X.env))) _ _ s
  refine Calls.spliced_cons (wpAny_BinOp (L2.thn (ha.run pins s σ H _ I h) fun v s1 ⟨x, H1, I1, r1, q1⟩ => Calls.Constant_str ?_))
  refine wpAny_mono (PySem.wpAny_toks (ho pins { s1 with toks := s1.toks + 1 } σ H1 x (.str c) v (.str c s1.toks) _ (I1.tok _) r1 ⟨_, rfl⟩ q1)) (fun u s2 q => ?_) fun _ _ z => z.2
  obtain ⟨hk, y, H2, I2, r2, q2⟩ := q
  have hk : s1.toks + 1 ≤ s2.toks := hk
  exact L2.thn (hr pos pins s2 σ H2 _ (by omega) I2 q2) fun us s3 ⟨xs, H3, I3, r3, q3⟩ => ⟨y :: xs, H3, I3, .cons r2 r3, q3⟩
theorem un65 {k : Nat} {A : Around} (r : Room k A) : A.units + 65 < cLine := by
  have := r.un
  omega
def rInT (K : PySem.W.Frag) : R2 := fun x y H Q => ∃ d ds, Dp K H x d ∧ Dp K H y (.tuple ds) ∧ SeqAt.shaped d = true ∧ SeqAt.shaped (.tuple ds) = true ∧ Q (.bl (ds.any fun z => PyData.eqv z d)) H
theorem op_inT {X : Cx} (hu : X.A.units + 65 < cLine) : OpR X (compareOp .In) (rInT X.K) := by
  intro pins s σ H x y v u Q I rx ry h
  obtain ⟨d, ds, hd, he, sd, se, q⟩ := h
  obtain ⟨as, r1⟩ := Dp.reads I d x v hd rx
  obtain ⟨bs, r2⟩ := Dp.reads I (.tuple ds) y u he ry
  exact SeqAt.in_tuple_reads r2 r1 (SeqAt.canLay_of_shaped se) (SeqAt.canLay_of_shaped sd) (room_in_shaped sd hu) ⟨.bl _, H, I, rfl, q⟩
theorem op_mulS {X : Cx} : OpR X (binaryOp .Mult) (fun x y H Q => ∃ (i : Str) (k : Int), x = .str i ∧ y = .int k ∧ i.length ≤ 16 ∧ 0 ≤ k ∧ k ≤ 1048576 ∧ ∀ z : Str, (z.length : Int) = (i.length : Int) * k → Q (.str z) H) := by
  intro pins s σ H x y v u Q I rx ry h
  obtain ⟨i, k, rfl, rfl, h1, h2, h3, q⟩ := h
  obtain ⟨t, rfl⟩ := rx
  obtain ⟨t', rfl⟩ := ry
  exact PySem.W.KXi.mul rfl h1 (by omega) h3 fun tt tk _ e => ⟨.str (Txt.mul i k), H, I.tok _, ⟨tt, rfl⟩, q _ (e h2)⟩
end RPL

/-! ### enumerate(t), t a tuple -/
namespace EnT
open PySem PySem.Spec PyProof.Rows L2
abbrev titer (t : Addr) : Obj := { cls := .type "tuple_iterator", data := .fields #[.ref t, .int 0 0] }
abbrev enob (i : Addr) : Obj := { cls := .type "enumerate", data := .fields #[.none, .bool false, .ref i, rawInt 0, .none, .none] }
theorem made (t : Addr) (ys : Array Value) :
    Meets (Builtin.«enumerate.__new__» ⟨[.type "enumerate", .ref t], []⟩) (fun _ R s => s.heap.IsTuple t ys ∧ R (.ok (.ret (.ref (s.heap.push (titer t)).objs.size))) { s with heap := (s.heap.push (titer t)).push (enob s.heap.objs.size) }) :=
  .of_wp fun prog w A R s hyp => by
    obtain ⟨hp, gg, dd, tt, oo⟩ := s
    obtain ⟨isT, hyp⟩ := hyp
    have sub1 := sub_enumerate
    have it1 : ∀ {A' : Around} {E : Value → Shared → Prop} {Q : Value → Shared → Prop}, Q (.ref hp.objs.size) ⟨hp.push (titer t), gg, dd, tt, oo⟩ → wpAny (model prog w) A' (pyIter (.ref t)) Q E ⟨hp, gg, dd, tt, oo⟩ := fun q => wpAny_pyIter_tuple isT q
    wp_walk using it1
    refine wpAny_stack_any fun _ => wpAny_pure ?_
    split
    · rename_i cc _ _ _ _ _
      cases (cc == Value.type "enumerate") <;> (wp_walk using it1; exact ⟨_, rfl, hyp⟩)
    · wp_walk using it1
      exact ⟨_, rfl, hyp⟩
theorem called {prog : Program} {w : World} {A : Around} {E : Value → Shared → Prop} {s : Shared} {t : Addr} {ys : Array Value} {Q : Value → Shared → Prop} (isT : s.heap.IsTuple t ys)
    (k : ∀ g, IsEnum g (s.heap.objs.size + 1) s.heap.objs.size 0 .none → g.IsTupleIter s.heap.objs.size t 0 → (∀ b o, s.heap.get? b = some o → g.get? b = some o) → Q (.ref (s.heap.objs.size + 1)) { s with heap := g }) :
    wpAny (model prog w) A (call (.type "enumerate") [.ref t]) Q E s := by
  refine callType_new F.called_enumerate (by decide) (F.typeCall_enumerate_1 _) (F.newCall_enumerate_1 _) (fun ob => F.args_object_init_2 ob _) F.entry_enumerate_new (made t ys) ⟨isT, ?_⟩
  have sz : (s.heap.push (titer t)).objs.size = s.heap.objs.size + 1 := Heap.size_push ..
  have en : IsEnum ((s.heap.push (titer t)).push (enob s.heap.objs.size)) (s.heap.objs.size + 1) s.heap.objs.size 0 .none := by
    have z := Heap.get?_push_size (s.heap.push (titer t)) (o := enob s.heap.objs.size) rfl
    rw [sz] at z
    exact z
  show _ ∧ _
  rw [sz]
  exact ⟨⟨_, en, rfl⟩, k _ en ⟨_, Heap.get?_push_of_some _ (Heap.get?_push_size _ rfl), rfl, rfl⟩ fun b o x => Heap.get?_push_of_some _ (Heap.get?_push_of_some _ x)⟩
theorem ends {prog : Program} {w : World} {A : Around} {E : Value → Shared → Prop} {s : Shared} {e ti a : Addr} {i : Nat} {ys : Array Value} {old : Value} {Q : Option Value → Shared → Prop} (hh : A.handled = none) (e1 : IsEnum s.heap e ti i old) (e2 : s.heap.IsTupleIter ti a i)
    (isT : s.heap.IsTuple a ys) (no : ys[i]? = none) (k : ∀ g, Heap.ExtBut ti s.heap g → Q none { s with heap := g }) : wpAny (model prog w) A (pyNext (.ref e)) Q E s := by
  have ty : s.TypeIs (.ref e) "enumerate" := ⟨_, e1, rfl⟩
  unfold pyNext
  refine wpAny_bind (wpAny_attempt (wpAny_callSpecial?_slot (name := Str.ofString "__next__") ty F.slot_enumerate_next (wpAny_call_entry F.slot_enumerate_next ty F.entry_enumerate_next ?_ (F.args_enumerate_next_1 _))))
  show wpAny _ _ (field (.ref e) 2 >>= _) _ _ s
  refine wpAny_bind (wpAny_field e1 rfl (x := .ref ti) rfl (wpAny_bind (wpAny_nextOf_tuple_end hh e2 isT no fun g x eg ex => ?_)))
  obtain ⟨o, q1, q2⟩ := ex
  exact wpAny_bind (wpAny_isInstance (T := "StopIteration") (b := true) ⟨o, q1, q2⟩ isSubtype_stop (wpAny_pure (k _ eg)))
/-- the tuple at a, each item in a new pair with its place -/
def Ien (K : PySem.W.Frag) (a : Addr) : It where
  go := fun i H => ∃ (xs : List V) (x : V), SqT K H a xs ∧ xs[i]? = some x
  yld := fun i H v H' => ∃ p x, v = .ref p ∧ H p = none ∧ H' = L2.upd H p (.tup [.int (i : Nat), x]) ∧ ∀ xs, SqT K H a xs → xs[i]? = some x
  stop := fun i H => ∃ xs : List V, SqT K H a xs ∧ xs.length ≤ i
theorem turn {P : Program} {w : World} {K : PySem.W.Frag} {elts : List Expr} {kk : Nat} {tpos : Pos} (a en ti : Addr) :
    Turn P w K (.Tuple elts kk tpos) (Ien K a) [en, ti] en (fun i h => (∃ old, IsEnum h en ti ((i : Nat) : Int) old) ∧ h.IsTupleIter ti a i ∧ en ≠ ti) where
  mem := List.mem_cons_self
  obj := fun i h st b hb => by
    obtain ⟨⟨old, e1⟩, ⟨o, e2, _, e3⟩, _⟩ := st
    rcases (by simpa using hb : b = en ∨ b = ti) with rfl | rfl
    · exact ⟨_, e1, fun v q => nomatch q⟩
    · exact ⟨o, e2, fun v q => by rw [e3] at q; cases q⟩
  keep := fun i h h' st k => by
    obtain ⟨⟨old, e1⟩, e2, e3⟩ := st
    exact ⟨⟨old, k en List.mem_cons_self _ e1⟩, e2.at fun o q => k ti (List.mem_cons_of_mem _ List.mem_cons_self) o q, e3⟩
  item := by
    intro X hP hw hK hc i pins s σ H E I hf st hg
    subst hP hw hK
    obtain ⟨⟨old, e1⟩, e2, ne⟩ := st
    obtain ⟨xs, x, hq, hx⟩ := hg
    obtain ⟨its, rv, p, hz⟩ := I.tuple hq
    obtain ⟨u, hu, ru⟩ := rv.get hx
    have isT : s.heap.IsTuple a its.toArray := p
    have l1 : en < s.heap.objs.size := Heap.lt_size e1
    have l2 : ti < s.heap.objs.size := by
      obtain ⟨_, q, _⟩ := e2
      exact Heap.lt_size q
    have n1 : a ≠ ti := fun z => by
      obtain ⟨o, q1, q2, _⟩ := e2
      obtain ⟨o2, r1, r2, _⟩ := isT
      rw [z, q1] at r1
      cases r1
      rw [q2] at r2
      exact absurd r2 (by decide)
    have n2 : a ≠ en := fun z => by
      obtain ⟨o2, r1, r2, _⟩ := isT
      rw [z, e1] at r1
      cases r1
      exact absurd (show Value.type "enumerate" = Value.type "tuple" from r2) (by decide)
    have iu : i < its.toArray.size := by
      have := (List.getElem?_eq_some_iff.mp hu).1
      simpa using this
    refine wpAny_pyNext_enum_itemD (Draws.tuple (prog := X.prog) (w := X.w) (A := X.A.in1) (show X.A.in1.handled = none from I.ok.hd hc) ti a n1 its.toArray) e1 ⟨e2, isT⟩ iu ne (by simp [ne, n2.symm]) fun y g tk hy ho sti hT hsz hk => ?_
    have ey : y = u := by
      have : its[i]? = some y := by simpa using hy
      rw [hu] at this
      exact (Option.some.inj this).symm
    subst ey
    refine ⟨_, rfl, wpAny_letOwnedTupleGo_enum (s := { s with heap := g, toks := tk + 1 }) ho fun g2 e4 sb => ?_⟩
    have hT2 : g2.get? s.heap.objs.size = some { cls := .type "tuple", data := .seq #[.int i tk, y] } := (sb.2 _ (Nat.ne_of_gt l1)).trans hT
    have nw : ObjOk X.prog X.w (L2.upd H s.heap.objs.size (.tup [.int (i : Nat), x])) g2 s.heap.objs.size (.tup [.int (i : Nat), x]) :=
      ⟨by show 2 ≤ sizeLine; decide, [.int i tk, y], .cons ⟨_, rfl⟩ (.cons ru .nil), ⟨_, hT2, rfl, _, rfl⟩⟩
    have I1 : Inv X pins σ (L2.upd H s.heap.objs.size (.tup [.int (i : Nat), x])) { s with heap := g2, toks := tk + 1 } :=
      I.turnedNew (ch := [en, ti]) (fun b o hb q => (sb.2 b fun z => hb (by simp [z])).trans (hk b o (fun z => hb (by simp [z])) (fun z => hb (by simp [z])) q)) hf (Nat.le_refl _) nw
    refine ⟨.ref s.heap.objs.size, _, I1, rfl, ⟨_, x, rfl, I.hok.fresh (Nat.le_refl _), rfl, fun ys hy => by rw [I.tuple_inj hy hq]; exact hx⟩, ⟨⟨y, ?_⟩, sti.1.at fun o q => (sb.2 ti ne.symm).trans q, ne⟩, fun b hb => ?_⟩
    · rw [show ((i + 1 : Nat) : Int) = (i : Int) + 1 by omega]
      exact e4
    · have lb : b < s.heap.objs.size := by
        rcases (by simpa using hb : b = en ∨ b = ti) with rfl | rfl
        · exact l1
        · exact l2
      rw [upd_ne (Nat.ne_of_lt lb)]
      exact (hf b hb).1
  done := by
    intro X hP hw hK hc i pins s σ H E I hf st hg
    subst hP hw hK
    obtain ⟨⟨old, e1⟩, e2, ne⟩ := st
    obtain ⟨xs, hq, hx⟩ := hg
    obtain ⟨its, rv, p, hz⟩ := I.tuple hq
    obtain ⟨f0, f1, f2, f3, f4, f5⟩ := hf ti (by simp)
    have hl := rv.length
    have isT : s.heap.IsTuple a its.toArray := p
    exact ends (I.ok.hd hc) e1 e2 isT (by simp; omega) fun g eb => ⟨rfl, I.turned (t' := s.toks) (fun b o hb q => eb b o hb q) f0 f1 f3 f4 f5⟩
  self := fun A i s Q E st k => by
    obtain ⟨⟨_, e1⟩, _⟩ := st
    exact wpAny_pyIter_enum e1 k
def iEn (K : PySem.W.Frag) (ta : TA) : TI := fun σ H R => ta σ H fun vs H1 => ∃ a xs, vs = [.ref a] ∧ SqT K H1 a xs ∧ R (Ien K a) H1
theorem walk {K : PySem.W.Frag} {a : Addr} {xs : List V} : Walk (Ien K a) xs.length (fun H => SqT K H a xs) (YPair (fun i => some (.int (i : Nat))) (fun i => xs[i]?)) := by
  refine ⟨fun i _ hi q => ⟨xs, xs[i], q, List.getElem?_eq_getElem hi⟩, fun _ q => ⟨xs, q, Nat.le_refl _⟩, fun i H v H' _ q y => ?_⟩
  obtain ⟨p, x, h1, h2, h3, h4⟩ := y
  exact ⟨p, .int (i : Nat), x, h1, h2, h3, rfl, h4 xs q⟩
end EnT
theorem pi_enumT (K : PySem.W.Frag) {X : Cx} {e : Expr} {ta : TA} {p pos tpos : Pos} {elts : List Expr} {kk : Nat} (hg : Gl X "enumerate") (hm : X.mg "enumerate" = none) (ha : L2.PA X [e] ta) (hK : X.K = K := by rfl) (hs : starEach [e] X.env = [(false, eval e X.env)] := by rfl) :
    PI X (.Tuple elts kk tpos) (.Call (.Name "enumerate" p) [e] [] pos) (EnT.iEn K ta) := by
  subst hK
  refine ⟨fun pins s σ H R I h => ?_⟩
  refine Call_ (ld_blt I hg hm boot_enumerate (PyProof.Rows.callWith_type1 (thn (ha.run pos pins s σ H _ I h) fun us s1 ⟨vs, H1, I1, r1, a, xs, ex, hq, q⟩ => ?_) hs rfl))
  subst ex
  obtain ⟨u, rfl, ru⟩ := r1.one
  cases ru
  obtain ⟨its, rv, p', hz⟩ := I1.tuple hq
  refine EnT.called (show s1.heap.IsTuple a its.toArray from p') fun g e1 e2 hk => wpAny_pyIter_enum e1 ?_
  refine ⟨s1.heap.objs.size + 1, [s1.heap.objs.size + 1, s1.heap.objs.size], _, _, H1, rfl, I1.kept (t' := s1.toks) hk, EnT.turn a (s1.heap.objs.size + 1) s1.heap.objs.size, ⟨⟨.none, e1⟩, e2, Nat.succ_ne_self _⟩, fun b hb => ?_, q⟩
  have lb : s1.heap.objs.size ≤ b := by
    rcases (by simpa using hb : b = s1.heap.objs.size + 1 ∨ b = s1.heap.objs.size) with z | z
    · exact z ▸ Nat.le_add_right _ _
    · exact z ▸ Nat.le_refl _
  exact I1.fpOk lb (I1.hok.fresh lb)

/-- the first place -/
def ixOf {α : Type} [DecidableEq α] (l : List α) (x : α) : Nat := l.findIdx fun y => decide (y = x)
theorem ix_lt {α : Type} [DecidableEq α] {l : List α} {x : α} (h : x ∈ l) : ixOf l x < l.length := List.findIdx_lt_length_of_exists ⟨x, h, decide_eq_true rfl⟩
theorem ix_get {α : Type} [DecidableEq α] {l : List α} {x : α} (h : x ∈ l) : l[ixOf l x]? = some x := by
  have hl := ix_lt h
  rw [List.getElem?_eq_getElem hl]
  exact congrArg some (of_decide_eq_true (List.findIdx_getElem (w := hl)))
theorem ix_before {α : Type} [DecidableEq α] {l : List α} {x y : α} {m : Nat} (hm : m < ixOf l x) (h : l[m]? = some y) : y ≠ x := by
  obtain ⟨hl, rfl⟩ := List.getElem?_eq_some_iff.mp h
  exact of_decide_eq_false (List.not_of_lt_findIdx hm)
/-! ### {t: v} with a tuple as its key; t.index(x), x a tuple; a loop over a list or a tuple -/
namespace DS1
open PySem PySem.Spec PyProof.Rows L2
variable {X : Cx}
def tDisp1 (tk tv : TE) : TE := fun σ H Q => ∀ p, H p = none → tk σ (L2.upd H p (.dT [])) fun x H1 => tv σ H1 fun y H2 => ∃ (b : Addr) (k : List Key), H2 p = some (.dT []) ∧ x = .ref b ∧ H2 b = some (.tup (k.map kV)) ∧ Q (.ref p) (L2.upd H2 p (.dT [(k, y)]))
theorem pe_disp1 {ke ve : Expr} {pos : Pos} {tk tv : TE} (hu : X.A.units + 1 < cLine) (hk : PE X ke tk) (hv : PE X ve tv) : PE X (.Dict [some ke] [ve] pos) (tDisp1 tk tv) := by
  refine ⟨fun pins s σ H Q I q => ?_⟩
  have hn := I.hok.fresh (Nat.le_refl s.heap.objs.size)
  have I1 := I.laid (a := s.heap.objs.size) (o := .dT []) (h' := s.heap.push { cls := .type "dict", data := .dict #[] }) (t' := s.toks) (fun _ _ q => Heap.get?_push_of_some _ q) (Nat.le_refl _) (dt_empty s.heap I.big)
  rw [arm_eval_Dict, zip_pairTrees [some ke] [ve] X.env pos rfl rfl, dictDisplay_pairs _ (by simp [pairTrees]) (by simp [pairTrees])]
  refine wpAny_bind (wpAny_standAt (wpAny_bind ?_))
  unfold subDict
  refine wpAny_bind (wpAny_alloc ?_)
  refine wpAny_bind (wpAny_holding ?_)
  rw [if_pos (by simp [pairTrees])]
  refine wpAny_bind (pairTrees_cons_walk (L2.thn (hk.run pins _ σ _ _ I1 (q _ hn)) fun u s1 ⟨x, H1, I1, rx, q1⟩ => L2.thn (hv.run pins s1 σ H1 _ I1 q1) fun w2 s2 ⟨y, H2, I2, ry, q2⟩ => pairTrees_nil_walk ?_))
  obtain ⟨b, k, e, ex, eb, q3⟩ := q2
  subst ex
  cases (show u = Value.ref b from rx)
  refine wpAny_holding ?_
  rw [List.forIn_cons]
  obtain ⟨z, hd, xs, rel, dd⟩ := dt_of I2.hok e
  cases rel
  refine wpAny_bind (wpAny_bind ?_)
  show wpAny _ X.A (dictSet s.heap.objs.size (.ref b) w2 >>= fun _ => pure (ForInStep.yield PUnit.unit)) _ _ _
  refine wpAny_bind (wpAny_dictSet_heap (knd := tupleKind (mixKind X.prog X.w)) (hsz := by simp) (show (tupleKind (mixKind X.prog X.w)).room X.A from by show X.A.units < cLine; omega) (key_of I2.hok eb) dd fun h' dd' hs => wpAny_pure ?_)
  show wpAny _ X.A (forIn [] PUnit.unit _) _ _ _
  rw [List.forIn_nil]
  refine wpAny_pure (wpAny_pure (wpAny_pure ?_))
  obtain ⟨q', es, ep, hq, h2, h3, h4, _, h5⟩ := dd'
  refine wpAny_pure ⟨.ref s.heap.objs.size, _, d_write I2 (by rw [e]; exact True.intro) hs ⟨q', hq⟩ (ob := .dT [(k, y)]) ⟨by show 1 ≤ sizeLine; decide, hd, _, ((KT.put (.nil : KT H2 [] []) k eb ry).keeps fun c ys ec => ?_), q', es, ep, hq, h2, h3, h4, h5⟩, rfl, q3⟩
  rw [upd_ne (ne_of ec e (fun z => nomatch z))]
  exact ec
end DS1

namespace TIX
open PySem PySem.Spec PyProof.Rows L2
section
variable {X : Cx}
theorem call_tupF : CallR X (.type "tuple") (fun xs H Q => ∃ p ys, xs = [.ref p] ∧ SqL X.K H p ys ∧ ∀ l o, H l = none → o.dict = none → Q (.ref l) (L2.upd H l (.frz o (.tup ys)))) := by
  intro pins s σ H xs us Q I r h
  obtain ⟨p, ys, rfl, hq, q⟩ := h
  obtain ⟨u, rfl, rx⟩ := vals1 r
  cases rx
  obtain ⟨its, r', pl, hz⟩ := I.list hq
  have hlen := r'.length
  refine call_tuple_list pl.isList (fun h' kp => ?_) (by simp only [List.size_toArray] <;> omega)
  have I1 : Inv X pins σ H { s with heap := h' } := I.kept (t' := s.toks) kp
  have I2 : Inv X pins σ (L2.upd H h'.objs.size (.frz { cls := .type "tuple", data := .seq its.toArray } (.tup ys))) { s with heap := h'.push { cls := .type "tuple", data := .seq its.toArray } } :=
    I1.laid (t' := s.toks) (fun b o e => Heap.get?_push_of_some _ e) (Nat.le_refl _) (show ObjOk X.prog X.w _ _ _ (.frz _ (.tup ys)) from ⟨Heap.get?_push_size _ rfl, hz, its, r', IsTup.new _ _⟩)
  exact ⟨.ref h'.objs.size, _, I2, rfl, q _ _ (I1.hok.fresh (Nat.le_refl _)) rfl⟩
theorem un65 {k : Nat} {A : Around} (r : Room k A) : A.units + 65 < cLine := by
  have := r.un
  omega
def rNinT (K : PySem.W.Frag) : R2 := fun x y H Q => ∃ d ds, Dp K H x d ∧ Dp K H y (.tuple ds) ∧ SeqAt.shaped d = true ∧ SeqAt.shaped (.tuple ds) = true ∧ Q (.bl (!ds.any fun z => PyData.eqv z d)) H
theorem op_ninT (hu : X.A.units + 65 < cLine) : OpR X (compareOp .NotIn) (rNinT X.K) := by
  intro pins s σ H x y v u Q I rx ry h
  obtain ⟨d, ds, hd, he, sd, se, q⟩ := h
  obtain ⟨as, r1⟩ := Dp.reads I d x v hd rx
  obtain ⟨bs, r2⟩ := Dp.reads I (.tuple ds) y u he ry
  exact SeqAt.notIn_tuple_reads r2 r1 (SeqAt.canLay_of_shaped se) (SeqAt.canLay_of_shaped sd) (room_in_shaped sd hu) ⟨.bl _, H, I, rfl, q⟩
def FzT (H : Hp) (a : Addr) (xs : List V) : Prop := ∃ o, H a = some (.frz o (.tup xs)) ∧ o.dict = none
theorem FzT.sq {K : PySem.W.Frag} {H : Hp} {a : Addr} {xs : List V} (h : FzT H a xs) : SqT K H a xs := by
  obtain ⟨o, h, _⟩ := h
  exact .inl (.inr ⟨o, h⟩)
theorem FzT.same {H H' : Hp} {a : Addr} {xs : List V} (h : FzT H a xs) (s : Same H H') : FzT H' a xs := by
  obtain ⟨o, h, d⟩ := h
  exact ⟨o, s _ _ h, d⟩
def tTIdx (K : PySem.W.Frag) (to : TE) (t : TA) : TE := fun σ H Q => to σ H fun x H1 => ∃ (a : Addr) (vs : List V), x = .ref a ∧ FzT H1 a vs ∧ t σ H1 fun xs H2 => ∃ (b : Addr) (as : List Addr) (rooms : List (List Int)) (r : List Int),
  xs = [.ref b] ∧ FzT H2 a (as.map V.ref) ∧ Each (fun u (x : List Int) => SqT K H2 u (x.map V.int)) as rooms ∧ SqT K H2 b (r.map V.int) ∧ r ∈ rooms ∧ Q (.int ((ixOf rooms r : Nat) : Int)) H2
theorem dp_rooms {K : PySem.W.Frag} {H : Hp} : ∀ {as : List Addr} {rooms : List (List Int)}, Each (fun u (x : List Int) => SqT K H u (x.map V.int)) as rooms → DpAll K H (as.map V.ref) (rooms.map fun r => PyData.tuple (r.map PyData.int))
  | _, _, .nil => .nil
  | _, _, .cons h t => .cons (dp_intsT h) (dp_rooms t)
theorem can_rooms : ∀ rs : List (List Int), PyData.canLayAll0 (rs.map fun r => PyData.tuple (r.map PyData.int)) = true
  | [] => rfl
  | x :: r => by
    show (PyData.canLay0 (.tuple (x.map PyData.int)) && PyData.canLayAll0 (r.map fun r => PyData.tuple (r.map PyData.int))) = true
    rw [can_rooms r, show PyData.canLay0 (.tuple (x.map PyData.int)) = true from can_ints x]
    rfl
theorem dep_room (x : List Int) : PyData.depth (.tuple (x.map PyData.int)) = 1 := by
  rw [show PyData.depth (.tuple (x.map PyData.int)) = PyData.depthAll (x.map PyData.int) + 1 from rfl, dep_ints x]
theorem dep_rooms : ∀ rs : List (List Int), PyData.depthAll (rs.map fun r => PyData.tuple (r.map PyData.int)) ≤ 1
  | [] => Nat.zero_le _
  | x :: r => by
    show max (PyData.depth (.tuple (x.map PyData.int))) (PyData.depthAll (r.map fun r => PyData.tuple (r.map PyData.int))) ≤ 1
    rw [dep_room x]
    exact Nat.max_le.mpr ⟨Nat.le_refl _, dep_rooms r⟩
theorem shaped_room (r : List Int) : SeqAt.shaped (.tuple (r.map PyData.int)) = true := shaped_intsT r
theorem shaped_rooms (rs : List (List Int)) : SeqAt.shaped (.tuple (rs.map fun r => PyData.tuple (r.map PyData.int))) = true := by
  unfold SeqAt.shaped
  have := dep_rooms rs
  rw [show PyData.canLay0 (.tuple (rs.map fun r => PyData.tuple (r.map PyData.int))) = true from can_rooms rs, show PyData.depth (.tuple (rs.map fun r => PyData.tuple (r.map PyData.int))) = PyData.depthAll (rs.map fun r => PyData.tuple (r.map PyData.int)) + 1 from rfl, Bool.true_and]
  exact decide_eq_true (by omega)
theorem pe_tidx {o e : Expr} {to : TE} {t : TA} {apos cpos : Pos} (hu : X.A.units + 65 < cLine) (ho : PE X o to) (ha : L2.PA X [e] t)
    (hbase : attributeBase o "index" X.env (eval o X.env) = eval o X.env := by rfl)
    (hfew : ((backTo cpos (starEach [e] X.env)).all (fun x => !x.1) && (backToKw cpos (keywordEach [] X.env)).all (fun x => x.1.isSome)
      && decide (([e] : List Expr).length + ([] : List Keyword).length + (if ([] : List Keyword).isEmpty then 0 else 1) < 30)) = true := by rfl)
    (hline : (apos.endLine == cpos.line) = true := by rfl) (hs : starEach [e] X.env = (false, eval e X.env) :: starEach [] X.env := by rfl) (hplain : (backTo cpos (starEach [] X.env)).any (·.1) = false := by rfl) :
    PE X (.Call (.Attribute o "index" apos) [e] [] cpos) (tTIdx X.K to t) := by
  refine ⟨fun pins s σ H Q I h => ?_⟩
  refine wpAny_Call_method_late hbase hfew hline rfl (L2.thn (ho.run pins s σ H _ I h) fun v s1 ⟨x, H1, I1, r1, q1⟩ => ?_)
  obtain ⟨a, vs, ex, fz, q1⟩ := q1
  subst ex
  cases r1
  obtain ⟨ob, hob, hd⟩ := fz
  obtain ⟨h1, hz1, its1, r1', tp⟩ := (show ObjOk X.prog X.w H1 s1.heap a (.frz ob (.tup vs)) from I1.hok a _ hob)
  refine ⟨"tuple", "tuple.index", PySem.F.plainAttrs_tuple, PySem.F.slot_tuple_index, PySem.F.type_tuple_index, (let ⟨o, ho, hc, _⟩ := tp; ⟨o, ho, hc⟩), fun b e => (by cases e; exact ⟨ob, h1, hd⟩), ?_⟩
  have hA := ha.run cpos pins s1 σ H1 _ I1 q1
  rw [hs] at hA ⊢
  refine Calls.callWith_builtin (by show (false || (backTo cpos (starEach [] X.env)).any (·.1)) = false; rw [hplain] <;> rfl) (Calls.evalArgs_plain ?_)
  refine L2.thn hA fun us s2 ⟨ws, H2, I2, r2, q2⟩ => ?_
  obtain ⟨b, as, rooms, r, ew, fz2, hE, hb, hr, q2⟩ := q2
  subst ew
  obtain ⟨u, eu, ru⟩ := vals1 r2
  subst eu
  cases ru
  obtain ⟨its, rv, tp2, hz⟩ := I2.tuple (FzT.sq (K := X.K) fz2)
  obtain ⟨bs, rb⟩ := Dp.reads I2 _ _ _ (dp_intsT hb) rfl
  obtain ⟨cs, h4⟩ := Dp.readsAll I2 _ _ its (dp_rooms hE) rv
  have hxs := can_rooms rooms
  have hmap : its.map (SeqAt.readOf s2.heap) = rooms.map fun r => PyData.tuple (r.map PyData.int) := SeqAt.readsAll_map _ its cs hxs h4
  have hn : its.length = rooms.length := by
    have := congrArg List.length hmap
    simpa using this
  have hdr := dep_rooms rooms
  have key := SeqAt.items_eqAt (A := X.A) (vs := its.toArray) (show ReadsAll s2.heap its.toArray.toList _ cs from h4) rb hxs (show PyData.canLay0 (.tuple (r.map PyData.int)) = true from can_ints r) (by rw [dep_room r]; omega)
  have itm : SeqAt.ItemsEq X.A.in1 s2 its rooms (.ref b) r := by
    refine ⟨hn, fun j h1 h2 => ?_⟩
    have k := key its[j] (by simp)
    have e1 : SeqAt.readOf s2.heap its[j] = PyData.tuple (rooms[j].map PyData.int) := by
      have := congrArg (fun l => l[j]?) hmap
      simp only [List.getElem?_map, List.getElem?_eq_getElem h1, List.getElem?_eq_getElem h2] at this
      exact Option.some.inj this
    rw [e1, eqv_intsT] at k
    exact k
  refine SeqAt.call_tuple_index (let ⟨o, ho, hc, hn⟩ := tp2; ⟨o, ho, hc, hn⟩) itm hr ?_
  exact ⟨.int _, H2, I2.tok _, ⟨_, rfl⟩, q2⟩
end
end TIX
/-! ### a loop over a list or a tuple -/
namespace SQX
open PySem PySem.Spec PyProof.Rows L2
def iSeq (K : PySem.W.Frag) (te : TE) : TI := fun σ H R => iTup K te σ H R ∨ iList K te σ H R
theorem pi_seq {X : Cx} {tg l : Expr} {tl : TE} (hl : PE X l tl) : PI X tg l (iSeq X.K tl) :=
  ⟨fun pins s σ H R I h => h.elim (fun h => (pi_tup (tg := tg) hl).run pins s σ H R I h) fun h => (pi_list (tg := tg) hl).run pins s σ H R I h⟩
theorem piTK {X : Cx} {tg l : Expr} {tl : TE} (K : PySem.W.Frag) (hl : PE X l tl) (h : X.K = K := by rfl) : PI X tg l (iTup K tl) := by
  subst h
  exact pi_tup hl
theorem crAllK {X : Cx} (K : PySem.W.Frag) (hc : X.calm = true) (h : X.K = K := by rfl) : CallR X (.builtin "all") (rAll K) := by
  subst h
  exact cr_all hc
end SQX

/-! ### the law's own programs -/
abbrev s_law_worth : Stmt := topS 26
theorem sc_law_worth : FnScope ["_law_pool_here", "_law_names_here"] ["_law_pool_here", "_law_names_here"] (defScope s_law_worth) := ⟨rfl, rfl, rfl, by decide +kernel, rfl, by decide +kernel, by decide +kernel⟩
abbrev s_law_test : Stmt := topS 27
theorem sc_law_test : FnScope ["_law_pool_here", "_law_names_here", "_law_name_here"] ["_law_pool_here", "_law_names_here"] (defScope s_law_test) := ⟨rfl, rfl, rfl, by decide +kernel, rfl, by decide +kernel, by decide +kernel⟩
abbrev s_law_cells : Stmt := topS 28
theorem sc_law_cells : FnScope ["_law_pool_here", "_law_names_here", "_law_room", "_law_cells_here", "_law_name_here", "_law_size"] ["_law_pool_here", "_law_names_here", "_law_room"] (defScope s_law_cells) := ⟨rfl, rfl, rfl, by decide +kernel, rfl, by decide +kernel, by decide +kernel⟩
abbrev s_law_command : Stmt := topS 29
theorem sc_law_command : FnScope ["_law_pool_here", "_law_name_here", "_law_names_here", "_law_tests", "_law_turn", "_law_some", "_law_sets", "_law_k", "_law_one"] ["_law_pool_here", "_law_name_here", "_law_names_here"] (defScope s_law_command) := ⟨rfl, rfl, rfl, by decide +kernel, rfl, by decide +kernel, by decide +kernel⟩
abbrev s_law_ask : Stmt := topS 30
theorem sc_law_ask : FnScope ["_law_pool_here", "_law_cells_here", "_law_commands", "_law_keeps", "_law_word"] ["_law_pool_here", "_law_cells_here", "_law_commands", "_law_keeps"] (defScope s_law_ask) := ⟨rfl, rfl, rfl, by decide +kernel, rfl, by decide +kernel, by decide +kernel⟩
theorem command_eq {t0 : Th} {ts ss : List Th} {cs : List Str} : commandB (.tup [t0, .tup ts, .tup ss]) cs = (nameB t0 && (decide (ts.length ≤ 4) && (decide (ss.length ≤ 4) && (ts.all (testB · cs) && (ss.all (setRowB · cs) && decide (ss.map fstS).Nodup))))) := rfl
theorem ask_eq {z : Str} {t1 : Th} {zs ys : List Str} {k : Bool} : askB (.tup [.str z, t1]) zs ys k = (decide (z ∈ asksL) && (ofB t1 ys && (k || decide (z = Str.ofString "can")))) := rfl
theorem mark_eq {t0 : Th} {rows : List Th} {zs ys : List Str} {k : Bool} : markB (.tup [t0, .tup rows]) zs ys k = (nameB t0 && (decide (rows.length ≤ 4) && rows.all (askRowB · zs ys k))) := rfl
theorem prog_eq {cs ms ks : List Th} {k : Bool} : progB (.tup [.tup cs, .tup ms, .tup ks, .bl k]) = (decide (1 ≤ cs.length) && (decide (cs.length ≤ 4) && (cs.all cellB && (decide (ms.length ≤ 8) && (ms.all (commandB · (cs.map fstS)) && (decide (ks.length ≤ 8) && (ks.all (markB · (cs.map fstS) (ms.map fstS) k) &&
      (decide (cs.map fstS).Nodup && (decide (ms.map fstS).Nodup && decide (ks.map fstS).Nodup))))))))) := rfl
theorem good_cps {z : Str} (g : GoodName z) : ∀ c ∈ z.cps.toList, c < 1114112 := fun c hc => by
  have := g.al c hc
  rw [letters_eq, List.mem_range'] at this
  omega
theorem good_th {N : Nat} {K : PySem.W.Frag} {H : Hp} {z : Str} (g : GoodName z) : TAt N K H (.str z) (.str z) := .str z (by have := g.hi; omega) (good_cps g)
theorem good_nameB {z : Str} (g : GoodName z) : nameB (.str z) = true := by
  rw [name_rest g.lo g.hi g.nw]
  exact List.all_eq_true.mpr fun c hc => decide_eq_true (g.al c hc)
theorem good_ofB {z : Str} {zs : List Str} (g : GoodName z) (h : z ∈ zs) : ofB (.str z) zs = true := by
  show (nameB (.str z) && decide (z ∈ zs)) = true
  rw [good_nameB g, decide_eq_true h]
  rfl
theorem num_yes {i lo hi : Int} (h1 : lo ≤ i) (h2 : i < hi) : numB (.int i) lo hi = true := by
  show (decide (lo ≤ i) && decide (i < hi)) = true
  rw [decide_eq_true h1, decide_eq_true h2]
  rfl
theorem test_ask {t : Th} {cs ms : List Str} {k : Bool} (h : testB t cs = true) : askB t cs ms k = true := by
  unfold askB
  split
  · simp [testB] at h
  · simp [testB] at h
  · exact h
theorem at_len {zs : List Str} {j : Nat} (h : j < zs.length) : atI (zs.map V.str) (j : Int) = some (.str zs[j]) := atI_nat (get_map (List.getElem?_eq_getElem h))
theorem cut_from {xs : List V} {k : Nat} (h : k ≤ xs.length) : cutV xs (some (k : Int)) none = xs.drop k := by
  unfold cutV
  rw [show HT.sIx xs.length 0 (some (k : Int)) = min k xs.length from HT.sIx_nat xs.length 0 k, HT.sIx_none, Nat.min_eq_left h]
  rw [← List.length_drop, List.take_length]
theorem cut_to {xs : List V} {k : Nat} : cutV xs none (some (k : Int)) = xs.take k := by
  unfold cutV
  rw [show HT.sIx xs.length xs.length (some (k : Int)) = min k xs.length from HT.sIx_nat xs.length xs.length k, HT.sIx_none, List.drop_zero, Nat.sub_zero]
  by_cases h : k ≤ xs.length
  · rw [Nat.min_eq_left h]
  · rw [Nat.min_eq_right (by omega), List.take_length, List.take_of_length_le (by omega)]
section
variable {P : Program} {w : World} {K : PySem.W.Frag} {mg : Str → Option Value} {base : Heap}
def spLWorth (K : PySem.W.Frag) : Sp := fun vs H Q _ => ∃ (A : PA) (c : Nat) (l : Addr) (zs : List Str), vs = [.ref A.p, .ref l] ∧ Pool H A c ∧ c < 800000 ∧ H l = some (.lst (zs.map V.str)) ∧ Off A l ∧ (∀ z ∈ zs, GoodName z) ∧ 1 ≤ zs.length ∧ zs.length ≤ 12 ∧
  ∀ (H' : Hp) (v : V) (t : Th), Pool H' A (c + 3) → Kp A H H' → TAt 10 K H' v t → worthB t zs = true → Q v H'
theorem ok_lworth {f : Addr} {fd : FuncData} (F : Fun K "_law_worth" "_law_worth" s_law_worth f fd) (T : Bi mg) (c_law_draw : Cal P w K mg base 1 "_law_draw" ["_law_pool_here", "_law_many"] spDraw) : FnOk P w K mg base CX0 2 f fd ["_law_pool_here", "_law_names_here"] (spLWorth K) := by
  refine F.ok sc_law_worth (fun vs H Q E h => ?_) (fun cdv A outer s H vs Q E hr h => ?_)
  · obtain ⟨A, c, l, zs, rfl, _⟩ := h
    rfl
  · obtain ⟨PL, c, l, zs, rfl, P0, hc, hl, ol, gz, l0, l1, q⟩ := h
    refine ⟨_, (pss_cons (ps_if (pt_cmpR op_eq (pe_call c_law_draw.G hr (by rfl) c_law_draw.g c_law_draw.kp c_law_draw.b .nil pass0 (pa_cons (pv 0) (pa_cons pe_int pa_nil))) pe_int (nomark _))
        (pss_one (ps_ret (pe_call c_law_draw.G hr (by rfl) c_law_draw.g c_law_draw.kp c_law_draw.b .nil pass0 (pa_cons (pv 0) (pa_cons (pe_ix ix_list (pe_lst (pa_cons pe_int (pa_cons pe_int pa_nil))) (pe_call c_law_draw.G hr (by rfl) c_law_draw.g c_law_draw.kp c_law_draw.b .nil pass0 (pa_cons (pv 0) (pa_cons pe_int pa_nil))) (fun _ _ => rfl)) pa_nil)))))
        pss_nil)
      (pss_one (ps_ret (pe_tup (pa_cons (pe_ix ix_list (pv 1) (pe_call c_law_draw.G hr (by rfl) c_law_draw.g c_law_draw.kp c_law_draw.b .nil pass0 (pa_cons (pv 0) (pa_cons (pe_callB call_len_seq (by rfl) T.len PySem.boot_len (pa_cons (pv 1) pa_nil)) pa_nil))) (fun _ _ => rfl)) (pa_cons (pe_op op_sub (pe_call c_law_draw.G hr (by rfl) c_law_draw.g c_law_draw.kp c_law_draw.b .nil pass0 (pa_cons (pv 0) (pa_cons pe_int pa_nil))) pe_int) pa_nil)))))), ?_⟩
    refine ⟨_, rfl, PL, _, 2, rfl, P0, by omega, by decide, by decide, fun H1 x _ _ P1 K1 => ⟨rfl, _, rfl, ite2 (fun e => ?_) (fun e => ?_)⟩⟩
    · refine ⟨_, rfl, by show 2 ≤ sizeLine; decide, fun L hL => ?_⟩
      have P2 := P1.same (same_upd (o := .lst [.int 3, .int 9]) hL)
      refine ⟨_, rfl, PL, _, 2, rfl, P2, by omega, by decide, by decide, fun H2 y y0 y1 P3 K3 => ?_⟩
      have hL3 := K3 _ _ upd_same (P1.off hL)
      obtain ⟨n, hn, n0, n9⟩ : ∃ n : Int, atI [V.int 3, .int 9] y = some (.int n) ∧ 0 < n ∧ n ≤ 9 := by
        have : y = 0 ∨ y = 1 := by omega
        rcases this with rfl | rfl
        · exact ⟨3, rfl, by decide, by decide⟩
        · exact ⟨9, rfl, by decide, by decide⟩
      refine ⟨L, _, _, _, rfl, rfl, SqL.of hL3, hn, PL, _, n, rfl, P3, by omega, n0, by omega, fun H4 z z0 z1 P4 K4 => ?_⟩
      exact q H4 _ (.int z) P4 (((K1.trans (skp (same_upd hL))).trans K3).trans K4) (.int z) (num_yes z0 (by omega))
    · have hl1 := K1 _ _ hl ol
      refine ⟨_, rfl, _, rfl, _, rfl, l, _, rfl, .inl (SqL.of hl1), PL, _, (zs.length : Nat), by rw [List.length_map]; rfl, P1, by omega, by omega, by omega, fun H2 x x0 x1 P2 K2 => ?_⟩
      obtain ⟨x, rfl⟩ : ∃ j : Nat, x = (j : Int) := ⟨x.toNat, by omega⟩
      have hx : x < zs.length := by omega
      refine ⟨l, _, _, .str zs[x], rfl, rfl, SqL.of (K2 _ _ hl1 ol), at_len hx, _, rfl, PL, _, 17, rfl, P2, by omega, by decide, by decide, fun H3 y y0 y1 P3 K3 => ⟨_, _, rfl, rfl, by show 2 ≤ sizeLine; decide, fun t ht => ?_⟩⟩
      have gx := gz _ (List.getElem_mem hx)
      refine q _ _ (.tup [.str zs[x], .int (y - 8)]) (P3.same (same_upd ht)) (((K1.trans K2).trans K3).trans (skp (same_upd ht))) (.tup (SqT.of upd_same) (by show 2 ≤ 10; decide) (.cons (good_th gx) (.cons (.int _) .nil))) ?_
      show (ofB (.str zs[x]) zs && numB (.int (y - 8)) (-8) 9) = true
      rw [good_ofB gx (List.getElem_mem hx), num_yes (by omega) (by omega)]
      rfl
def spLTest (K : PySem.W.Frag) : Sp := fun vs H Q _ => ∃ (A : PA) (c : Nat) (l : Addr) (zs : List Str), vs = [.ref A.p, .ref l] ∧ Pool H A c ∧ c < 700000 ∧ H l = some (.lst (zs.map V.str)) ∧ Off A l ∧ (∀ z ∈ zs, GoodName z) ∧ 1 ≤ zs.length ∧ zs.length ≤ 12 ∧
  ∀ (H' : Hp) (v : V) (t : Th), Pool H' A (c + 5) → Kp A H H' → TAt 10 K H' v t → testB t zs = true → Q v H'
theorem ok_ltest {f : Addr} {fd : FuncData} (F : Fun K "_law_test" "_law_test" s_law_test f fd) (T : Bi mg) (c_law_draw : Cal P w K mg base 1 "_law_draw" ["_law_pool_here", "_law_many"] spDraw) (c_law_worth : Cal P w K mg base 2 "_law_worth" ["_law_pool_here", "_law_names_here"] (spLWorth K)) : FnOk P w K mg base CX0 3 f fd ["_law_pool_here", "_law_names_here"] (spLTest K) := by
  refine F.ok sc_law_test (fun vs H Q E h => ?_) (fun cdv A outer s H vs Q E hr h => ?_)
  · obtain ⟨A, c, l, zs, rfl, _⟩ := h
    rfl
  · obtain ⟨PL, c, l, zs, rfl, P0, hc, hl, ol, gz, l0, l1, q⟩ := h
    refine ⟨_, (pss_cons (ps_set (i := 2) sc_law_test.nd rfl (.inl rfl) (pe_ix ix_list (pv 1) (pe_call c_law_draw.G (hr.mono (by decide)) (by rfl) c_law_draw.g c_law_draw.kp c_law_draw.b .nil pass0 (pa_cons (pv 0) (pa_cons (pe_callB call_len_seq (by rfl) T.len PySem.boot_len (pa_cons (pv 1) pa_nil)) pa_nil))) (fun _ _ => rfl)))
      (pss_one (ps_ret (pe_tup (pa_cons (pv 2) (pa_cons (pe_ix ix_list (pe_lst (pa_cons pe_str (pa_cons pe_str (pa_cons pe_str pa_nil)))) (pe_call c_law_draw.G (hr.mono (by decide)) (by rfl) c_law_draw.g c_law_draw.kp c_law_draw.b .nil pass0 (pa_cons (pv 0) (pa_cons pe_int pa_nil))) (fun _ _ => rfl)) (pa_cons (pe_call c_law_worth.G hr (by rfl) c_law_worth.g c_law_worth.kp c_law_worth.b .nil pass0 (pa_cons (pv 0) (pa_cons (pv 1) pa_nil))) pa_nil))))))), ?_⟩
    refine ⟨_, rfl, _, rfl, _, rfl, l, _, rfl, .inl (SqL.of hl), PL, _, (zs.length : Nat), by rw [List.length_map]; rfl, P0, by omega, by omega, by omega, fun H1 x x0 x1 P1 K1 => ?_⟩
    obtain ⟨x, rfl⟩ : ∃ j : Nat, x = (j : Int) := ⟨x.toNat, by omega⟩
    have hx : x < zs.length := by omega
    have gx := gz _ (List.getElem_mem hx)
    have hl1 := K1 _ _ hl ol
    refine ⟨l, _, _, .str zs[x], rfl, rfl, SqL.of hl1, at_len hx, ?_⟩
    refine ⟨_, rfl, by show 3 ≤ sizeLine; decide, fun L hL => ?_⟩
    have sL := same_upd (o := .lst [.str "is", .str "not", .str "under"]) hL
    refine ⟨_, rfl, PL, _, 3, rfl, P1.same sL, by omega, by decide, by decide, fun H2 y y0 y1 P2 K2 => ?_⟩
    have hL2 := K2 _ _ upd_same (P1.off hL)
    obtain ⟨z, hz, hz2⟩ : ∃ z : Str, atI [V.str "is", .str "not", .str "under"] y = some (.str z) ∧ z ∈ testsL := by
      have : y = 0 ∨ y = 1 ∨ y = 2 := by omega
      rcases this with rfl | rfl | rfl
      · exact ⟨"is", rfl, by decide +kernel⟩
      · exact ⟨"not", rfl, by decide +kernel⟩
      · exact ⟨"under", rfl, by decide +kernel⟩
    have hzg : z.length ≤ 100 ∧ ∀ c ∈ z.cps.toList, c < 1114112 := by
      have : ∀ z ∈ testsL, z.length ≤ 100 ∧ ∀ c ∈ z.cps.toList, c < 1114112 := by decide +kernel
      exact this z hz2
    have hl2 := K2 _ _ (sL _ _ hl1) ol
    refine ⟨L, _, _, .str z, rfl, rfl, SqL.of hL2, hz, _, rfl, _, rfl, PL, _, l, zs, rfl, P2, by omega, hl2, ol, gz, l0, l1, fun H3 v t P3 K3 xt wt => ⟨by show 3 ≤ sizeLine; decide, fun p hp => ?_⟩⟩
    have sp := same_upd (o := .tup [.str zs[x], .str z, v]) hp
    refine q _ _ (.tup [.str zs[x], .str z, t]) ((P3.same sp).mono (by omega)) (((((K1.trans (skp sL)).trans K2).trans K3)).trans (skp sp)) (.tup (SqT.of upd_same) (by show 3 ≤ 10; decide) (.cons (good_th gx) (.cons (.str z hzg.1 hzg.2) (.cons (xt.same sp) .nil)))) ?_
    show (ofB (.str zs[x]) zs && (decide (z ∈ testsL) && worthB t zs)) = true
    rw [good_ofB gx (List.getElem_mem hx), decide_eq_true hz2, wt]
    rfl
/-- the size of a cell, and of all of them -/
def szI : Th → Int
  | .tup [_, .int n, _] => n
  | _ => 1
def prodI : List Th → Int
  | [] => 1
  | t :: r => szI t * prodI r
theorem prod_snoc (t : Th) : ∀ l : List Th, prodI (l ++ [t]) = prodI l * szI t
  | [] => by
    show szI t * 1 = 1 * szI t
    rw [Int.mul_one, Int.one_mul]
  | x :: r => by
    show szI x * prodI (r ++ [t]) = szI x * prodI r * szI t
    rw [prod_snoc t r, Int.mul_assoc]
def spLCells (K : PySem.W.Frag) : Sp := fun vs H Q _ => ∃ (A : PA) (c : Nat) (l : Addr) (zs : List Str) (room : Int), vs = [.ref A.p, .ref l, .int room] ∧ Pool H A c ∧ c < 800000 ∧ H l = some (.lst (zs.map V.str)) ∧ Off A l ∧ (∀ z ∈ zs, GoodName z) ∧ zs.length ≤ 8 ∧ 1 ≤ room ∧ room ≤ 100000 ∧
  ∀ (H' : Hp) (v : V) (ts : List Th), Pool H' A (c + zs.length * 3) → Kp A H H' → TAt 10 K H' v (.tup ts) → ts.all cellB = true → ts.map fstS = zs → 0 ≤ prodI ts → prodI ts ≤ room → Q v H'
theorem div_lo {a b : Int} (h0 : 1 ≤ b) (h : b ≤ a) : 1 ≤ a / b := (Int.le_ediv_iff_mul_le (by omega)).mpr (by omega)
theorem div_hi {a b : Int} (h0 : 1 ≤ b) (h : 1 ≤ a) : a / b ≤ a := Int.ediv_le_self _ (by omega)
theorem ok_lcells {f : Addr} {fd : FuncData} (F : Fun K "_law_cells" "_law_cells" s_law_cells f fd) (T : Bi mg) (c_law_draw : Cal P w K mg base 1 "_law_draw" ["_law_pool_here", "_law_many"] spDraw) : FnOk P w K mg base CX0 2 f fd ["_law_pool_here", "_law_names_here", "_law_room"] (spLCells K) := by
  refine F.ok sc_law_cells (fun vs H Q E h => ?_) (fun cdv A outer s H vs Q E hr h => ?_)
  · obtain ⟨A, c, l, zs, room, rfl, _⟩ := h
    rfl
  · obtain ⟨PL, c, l, zs, room, rfl, P0, hc, hl, ol, gz, lz, r0, r1, q⟩ := h
    refine ⟨_, (pss_cons (ps_set (i := 3) sc_law_cells.nd rfl (.inl rfl) (pe_lst pa_nil))
      (pss_cons (ps_for PassesOwn.never rfl (pi_list (pv 1)) (pg_name (i := 4) sc_law_cells.nd rfl (.inl rfl))
        (pss_cons (ps_set (i := 5) sc_law_cells.nd rfl (.inl rfl) (pe_op op_add pe_int (pe_call c_law_draw.G hr (by rfl) c_law_draw.g c_law_draw.kp c_law_draw.b .nil pass0 (pa_cons (pv 0) (pa_cons (pe_callB (call_min2 rfl) (by rfl) T.min (by decide +kernel) (pa_cons (pe_ix ix_list (pe_lst (pa_cons pe_int (pa_cons pe_int (pa_cons pe_int pa_nil)))) (pe_call c_law_draw.G hr (by rfl) c_law_draw.g c_law_draw.kp c_law_draw.b .nil pass0 (pa_cons (pv 0) (pa_cons pe_int pa_nil))) (fun _ _ => rfl)) (pa_cons (pv 2) pa_nil))) pa_nil)))))
        (pss_cons (ps_set (i := 2) sc_law_cells.nd rfl (.inl rfl) (pe_op op_fdiv (pv 2) (pv 5)))
        (pss_one (ps_expr (pe_bm PySem.F.plainAttrs_list PySem.F.slot_list_append PySem.F.type_list_append mt_append (pv 3) (pa_cons (pe_tup (pa_cons (pv 4) (pa_cons (pv 5) (pa_cons (pe_call c_law_draw.G hr (by rfl) c_law_draw.g c_law_draw.kp c_law_draw.b .nil pass0 (pa_cons (pv 0) (pa_cons (pv 5) pa_nil))) pa_nil)))) pa_nil)))))))
      (pss_one (ps_ret (pe_callTy call_tuple_of (by rfl) T.tuple (by decide +kernel) (pa_cons (pv 3) pa_nil)))))), ?_⟩
    refine ⟨by show 0 ≤ sizeLine; decide, fun C hC => ?_⟩
    have oC := P0.off hC
    have sC := same_upd (o := .lst []) hC
    refine ⟨_, rfl, l, rfl, ⟨_, SqL.of (sC _ _ hl)⟩, for_list (K := K) (a := l) (xs := zs.map V.str) (fun i σ H' => ∃ (rm : Int) (y4 y5 : Option V) (ca : List V) (ts : List Th), σ = [some (.ref PL.p), some (.ref l), some (.int rm), some (.ref C), y4, y5] ∧ 1 ≤ rm ∧ rm ≤ 100000 ∧ Pool H' PL (c + i * 3) ∧ Kp PL H H' ∧ H' C = some (.lst ca) ∧ TAll 10 K H' ca ts ∧ ts.all cellB = true ∧ ts.map fstS = zs.take i ∧ 0 ≤ prodI ts ∧ prodI ts * rm ≤ room)
      ⟨room, none, none, [], [], rfl, r0, r1, by rw [Nat.zero_mul]; exact P0.same sC, skp sC, upd_same, .nil, rfl, rfl, by decide, by show 1 * room ≤ room; omega⟩ (fun i σ H' _ ⟨_, _, _, _, _, _, _, _, _, k, _⟩ => SqL.of (k _ _ hl ol)) ?_ ?_⟩
    · rintro i x σ H1 hi ⟨rm, y4, y5, ca, ts, rfl, m0, m1, P1, K1, c1, all1, b1, f1, w0, w1⟩
      obtain ⟨z, hz, rfl⟩ := map_get hi
      have hil : i < zs.length := (List.getElem?_eq_some_iff.mp hz).1
      have gx := gz z (List.mem_of_getElem? hz)
      have lca : ca.length = i := by
        have e1 := congrArg List.length f1
        rw [List.length_map, List.length_take] at e1
        rw [all1.len]
        omega
      refine ⟨_, rfl, by show 3 ≤ sizeLine; decide, fun L hL => ?_⟩
      have sL := same_upd (o := .lst [.int 9, .int 3, .int 4]) hL
      refine ⟨_, rfl, PL, _, 3, rfl, P1.same sL, by omega, by decide, by decide, fun H2 y y0 y1 P2 K2 => ?_⟩
      have hL2 := K2 _ _ upd_same (P1.off hL)
      obtain ⟨n, hn, n0, n9⟩ : ∃ n : Int, atI [V.int 9, .int 3, .int 4] y = some (.int n) ∧ 1 ≤ n ∧ n ≤ 9 := by
        have : y = 0 ∨ y = 1 ∨ y = 2 := by omega
        rcases this with rfl | rfl | rfl
        · exact ⟨9, rfl, by decide, by decide⟩
        · exact ⟨3, rfl, by decide, by decide⟩
        · exact ⟨4, rfl, by decide, by decide⟩
      refine ⟨L, _, _, .int n, rfl, rfl, SqL.of hL2, hn, _, rfl, n, rm, rfl, ?_⟩
      have hmin : (if rm < n then V.int rm else V.int n) = V.int (if rm < n then rm else n) := by split <;> rfl
      refine ⟨PL, _, (if rm < n then rm else n), ?_, P2, by omega, by split <;> omega, by split <;> omega, fun H3 d d0 d1 P3 K3 => ?_⟩
      · show [V.ref PL.p, _] = _
        first
        | rfl
        | (rw [← hmin]; rfl)
      have d2 : 1 + d ≤ rm ∧ 1 + d ≤ n := by
        by_cases h : rm < n
        · rw [if_pos h] at d1
          omega
        · rw [if_neg h] at d1
          omega
      refine ⟨_, _, rfl, rfl, ?_⟩
      refine ⟨_, rfl, _, rfl, _, _, rfl, rfl, ⟨by omega, by omega⟩, ?_⟩
      have K13 := ((skp (a := PL) sL).trans K2).trans K3
      have c3 := K13 _ _ c1 oC
      refine ⟨_, rfl, .inl ⟨rfl, _, SqL.of c3⟩, _, rfl, _, rfl, _, rfl, _, rfl, PL, _, 1 + d, rfl, P3, by omega, by omega, by omega, fun H4 e e0 e1 P4 K4 => ⟨by show 3 ≤ sizeLine; decide, fun t ht => ?_⟩⟩
      have st := same_upd (o := .tup [.str z, .int (1 + d), .int e]) ht
      have c4 := st _ _ (K4 _ _ c3 oC)
      have P5 := P4.same st
      have K15 := (K13.trans K4).trans (skp (a := PL) st)
      have all5 := all1.tk (tk_kp P1 P5 K15)
      refine ⟨C, _, _, rfl, rfl, c4, szLt (by omega), ?_⟩
      have tk6 := tk_list (K := K) (ys := ca ++ [.ref t]) c4
      refine ⟨rm / (1 + d), _, _, ca ++ [.ref t], ts ++ [.tup [.str z, .int (1 + d), .int e]], rfl, div_lo (by omega) d2.1, Int.le_trans (div_hi (by omega) m0) m1, ?_, ?_, upd_same, ?_, ?_, ?_, ?_, ?_⟩
      · refine (P5.upd oC).mono ?_
        rw [Nat.succ_mul]
        omega
      · exact Kp.mut (K1.trans K15) hC
      · exact TAll.snoc (.tup (tk6.t _ _ (SqT.of upd_same)) (by show 3 ≤ 10; decide) (.cons (good_th gx) (.cons (.int _) (.cons (.int _) .nil)))) (all5.tk tk6)
      · rw [List.all_append, b1]
        show (cellB _ && true) = true
        show ((nameB (.str z) && (numB (.int (1 + d)) 1 10 && numB (.int e) 0 (1 + d))) && true) = true
        rw [good_nameB gx, num_yes (by omega) (by omega), num_yes e0 e1]
        rfl
      · rw [List.map_append, f1, List.take_add_one, hz]
        rfl
      · rw [prod_snoc]
        exact Int.mul_nonneg w0 (show 0 ≤ 1 + d by omega)
      · rw [prod_snoc, show szI (.tup [.str z, .int (1 + d), .int e]) = 1 + d from rfl, Int.mul_assoc]
        exact Int.le_trans (Int.mul_le_mul_of_nonneg_left (Int.mul_ediv_self_le (show 1 + d ≠ 0 by omega)) w0) w1
    · rintro σ H1 ⟨rm, y4, y5, ca, ts, rfl, m0, m1, P1, K1, c1, all1, b1, f1, w0, w1⟩
      rw [List.length_map] at P1 f1
      rw [List.take_length] at f1
      refine ⟨_, rfl, C, _, rfl, .inl ⟨SqL.of c1, fun t ht => ?_⟩⟩
      have st := same_upd (o := .tup ca) ht
      have e1 := congrArg List.length f1
      rw [List.length_map] at e1
      exact q _ _ ts (P1.same st) (K1.trans (skp st)) (.tup (SqT.of upd_same) (by rw [all1.len]; omega) (all1.tk (tk_same st))) b1 f1 w0 (Int.le_trans (by have := Int.mul_le_mul_of_nonneg_left m0 w0; rw [Int.mul_one] at this; exact this) w1)
end

abbrev s_law_marks : Stmt := topS 31
theorem sc_law_marks : FnScope ["_law_pool_here", "_law_names_here", "_law_cells_here", "_law_commands", "_law_keeps", "_law_marks_here", "_law_name_here", "_law_rows", "_law_k", "_law_many", "_law_j"] ["_law_pool_here", "_law_names_here", "_law_cells_here", "_law_commands", "_law_keeps"] (defScope s_law_marks) := ⟨rfl, rfl, rfl, by decide +kernel, rfl, by decide +kernel, by decide +kernel⟩
abbrev s_law_program : Stmt := topS 32
theorem sc_law_program : FnScope ["_law_pool_here", "_law_room", "_law_commands", "_law_marks_here", "_law_keeps", "_law_shared", "_law_many", "_law_called", "_law_cells_here", "_law_worn_here", "_law_inner", "_law_rows", "_law_name_here"] ["_law_pool_here", "_law_room", "_law_commands", "_law_marks_here"] (defScope s_law_program) := ⟨rfl, rfl, rfl, by decide +kernel, rfl, by decide +kernel, by decide +kernel⟩
section
variable {P : Program} {w : World} {K : PySem.W.Frag} {mg : Str → Option Value} {base : Heap}
def spLCommand (K : PySem.W.Frag) : Sp := fun vs H Q _ => ∃ (A : PA) (c : Nat) (z : Str) (l : Addr) (zs : List Str), vs = [.ref A.p, .str z, .ref l] ∧ Pool H A c ∧ c < 600000 ∧ GoodName z ∧ H l = some (.lst (zs.map V.str)) ∧ Off A l ∧ (∀ z ∈ zs, GoodName z) ∧ zs.Nodup ∧ 1 ≤ zs.length ∧ zs.length ≤ 4 ∧
  ∀ (H' : Hp) (v : V) (t : Th), Pool H' A (c + 38) → Kp A H H' → TAt 10 K H' v t → commandB t zs = true → fstS t = z → Q v H'
theorem ok_lcommand {f : Addr} {fd : FuncData} (F : Fun K "_law_command" "_law_command" s_law_command f fd) (T : Bi mg) (c_law_draw : Cal P w K mg base 1 "_law_draw" ["_law_pool_here", "_law_many"] spDraw) (c_law_test : Cal P w K mg base 3 "_law_test" ["_law_pool_here", "_law_names_here"] (spLTest K))
    (c_law_worth : Cal P w K mg base 2 "_law_worth" ["_law_pool_here", "_law_names_here"] (spLWorth K)) : FnOk P w K mg base CX0 4 f fd ["_law_pool_here", "_law_name_here", "_law_names_here"] (spLCommand K) := by
  refine F.ok sc_law_command (fun vs H Q E h => ?_) (fun cdv A outer s H vs Q E hr h => ?_)
  · obtain ⟨A, c, z, l, zs, rfl, _⟩ := h
    rfl
  · obtain ⟨PL, c, z0, l, zs, rfl, P0, hc, gz0, hl, ol, gz, nz, l0, l1, q⟩ := h
    refine ⟨_, (pss_cons (ps_set (i := 3) sc_law_command.nd rfl (.inl rfl) (pe_callTy call_tuple_of (by rfl) T.tuple (by decide +kernel) (pa_cons (pe_lc (own := [("_law_k", 7)]) (g := gName 7) rfl sc_law_command.nd (pi_range1 (by rfl) T.range (pa_cons (pe_ix ix_list (pe_lst (pa_cons pe_int (pa_cons pe_int (pa_cons pe_int (pa_cons pe_int (pa_cons pe_int pa_nil)))))) (pe_call c_law_draw.G (hr.mono (by decide)) (by rfl) c_law_draw.g c_law_draw.kp c_law_draw.b .nil pass0 (pa_cons (pv 0) (pa_cons pe_int pa_nil))) (fun _ _ => rfl)) pa_nil)) (blkOk_by (own := [("_law_k", 7)]) (N := ["_law_pool_here", "_law_name_here", "_law_names_here", "_law_tests", "_law_turn", "_law_some", "_law_sets", "_law_k", "_law_one"]) (sc := defScope s_law_command) (by decide +kernel)) (fun _ _ _ _ _ => (pg_name (i := 7) sc_law_command.nd rfl (.inl rfl))) (fun _ _ _ _ _ => pts_nil) (fun _ _ _ _ _ => (pe_call c_law_test.G hr (by rfl) c_law_test.g c_law_test.kp c_law_test.b .nil pass0 (pa_cons (pv 0) (pa_cons (pv 2) pa_nil))))) pa_nil)))
      (pss_cons (ps_set (i := 4) sc_law_command.nd rfl (.inl rfl) (pe_call c_law_draw.G (hr.mono (by decide)) (by rfl) c_law_draw.g c_law_draw.kp c_law_draw.b .nil pass0 (pa_cons (pv 0) (pa_cons (pe_callB call_len_seq (by rfl) T.len PySem.boot_len (pa_cons (pv 2) pa_nil)) pa_nil))))
      (pss_cons (ps_set (i := 5) sc_law_command.nd rfl (.inl rfl) (pe_op op_cat (pe_slice sl_list (pv 2) (po_some (pv 4)) po_none) (pe_slice sl_list (pv 2) po_none (po_some (pv 4)))))
      (pss_cons (ps_set (i := 6) sc_law_command.nd rfl (.inl rfl) (pe_callTy call_tuple_of (by rfl) T.tuple (by decide +kernel) (pa_cons (pe_lc (own := [("_law_one", 8)]) (g := gName 8) rfl sc_law_command.nd (pi_list (pv 5)) (blkOk_by (own := [("_law_one", 8)]) (N := ["_law_pool_here", "_law_name_here", "_law_names_here", "_law_tests", "_law_turn", "_law_some", "_law_sets", "_law_k", "_law_one"]) (sc := defScope s_law_command) (by decide +kernel)) (fun _ _ _ _ _ => (pg_name (i := 8) sc_law_command.nd rfl (.inl rfl))) (fun _ _ _ _ _ => (pts_one (pt_cmpR op_gt (pe_call c_law_draw.G (hr.mono (by decide)) (by rfl) c_law_draw.g c_law_draw.kp c_law_draw.b .nil pass0 (pa_cons (pv 0) (pa_cons pe_int pa_nil))) pe_int (nomark _)))) (fun _ _ _ _ _ => (pe_tup (pa_cons (pv 8) (pa_cons (pe_call c_law_worth.G (hr.mono (by decide)) (by rfl) c_law_worth.g c_law_worth.kp c_law_worth.b .nil pass0 (pa_cons (pv 0) (pa_cons (pv 2) pa_nil))) pa_nil))))) pa_nil)))
      (pss_one (ps_ret (pe_tup (pa_cons (pv 1) (pa_cons (pv 3) (pa_cons (pv 6) pa_nil)))))))))), ?_⟩
    refine ⟨by show 5 ≤ sizeLine; decide, fun L hL => ?_⟩
    have sL := same_upd (o := .lst [.int 0, .int 1, .int 1, .int 2, .int 4]) hL
    refine ⟨_, rfl, PL, _, 5, rfl, P0.same sL, by omega, by decide, by decide, fun H1 y y0 y1 P1 K1 => ?_⟩
    have hL1 := K1 _ _ upd_same (P0.off hL)
    obtain ⟨n, hn, n4⟩ : ∃ n : Nat, atI [V.int 0, .int 1, .int 1, .int 2, .int 4] y = some (.int n) ∧ n ≤ 4 := by
      have : y = 0 ∨ y = 1 ∨ y = 2 ∨ y = 3 ∨ y = 4 := by omega
      rcases this with rfl | rfl | rfl | rfl | rfl
      · exact ⟨0, rfl, by decide⟩
      · exact ⟨1, rfl, by decide⟩
      · exact ⟨1, rfl, by decide⟩
      · exact ⟨2, rfl, by decide⟩
      · exact ⟨4, rfl, by decide⟩
    have K01 := (skp (a := PL) sL).trans K1
    have hl1 := K01 _ _ hl ol
    refine ⟨L, _, _, .int n, rfl, rfl, SqL.of hL1, hn, (n : Int), rfl, by omega, by omega, fun D hD => lc_rangeT (a := PL) 5 (fun i H' acc => ∃ ts, TAll 10 K H' acc ts ∧ ts.all (testB · zs) = true ∧ ts.length = i) (fun i H H' acc k ⟨ts, x, y⟩ => ⟨ts, x.tk k, y⟩) P1 hD (by omega) (fun _ => ⟨[], .nil, rfl, rfl⟩) (fun _ => rfl) ?_ ?_⟩
    · rintro i H2 acc hi P2 K2 ⟨ts, all, bt, lt⟩ _ N1 N2 k1 k2
      refine ⟨_, rfl, _, rfl, PL, _, l, zs, rfl, P2, by omega, K2 _ _ hl1 ol, ol, gz, l0, by omega, fun H3 v t P3 K3 xt bt3 => k1 v H3 P3 K3 ⟨ts ++ [t], TAll.snoc xt (all.tk (tk_kp P2 P3 K3)), ?_, ?_⟩⟩
      · rw [List.all_append, bt]
        show (testB t zs && true) = true
        rw [bt3]
        rfl
      · rw [List.length_append, lt]
        rfl
    rintro H2 acc P2 K2 hD2 lacc ⟨ts, all2, bt, lt⟩ oD
    have hn2 : ((n : Int) - 0).toNat = n := by omega
    refine ⟨D, _, rfl, .inl ⟨SqL.of hD2, fun t ht => ?_⟩⟩
    have st := same_upd (o := .tup acc) ht
    have K03 := (K01.trans K2).trans (skp (a := PL) st)
    have hl3 := K03 _ _ hl ol
    have P3 := P2.same st
    have xt3 : TAt 10 K (L2.upd H2 t (.tup acc)) (.ref t) (.tup ts) := .tup (SqT.of upd_same) (by omega) (all2.tk (tk_same st))
    generalize L2.upd H2 t (.tup acc) = H3 at K03 hl3 P3 xt3
    refine ⟨_, rfl, _, rfl, l, _, rfl, .inl (SqL.of hl3), PL, _, (zs.length : Nat), by rw [List.length_map]; rfl, P3, by omega, by omega, by omega, fun H4 x x0 x1 P4 K4 => ?_⟩
    obtain ⟨x, rfl⟩ : ∃ j : Nat, x = (j : Int) := ⟨x.toNat, by omega⟩
    have hl4 := K4 _ _ hl3 ol
    have xt4 := xt3.tk (tk_kp P3 P4 K4)
    refine ⟨_, rfl, _, rfl, x, rfl, l, _, rfl, SqL.of hl4, fun B hB => ?_⟩
    have sB := same_upd (o := .lst (cutV (zs.map V.str) (some (x : Int)) none)) hB
    refine ⟨_, rfl, _, rfl, x, rfl, l, _, rfl, SqL.of (sB _ _ hl4), fun C hC => ?_⟩
    have sC := same_upd (o := .lst (cutV (zs.map V.str) none (some (x : Int)))) hC
    have eB : cutV (zs.map V.str) (some (x : Int)) none = (zs.drop x).map V.str := by
      rw [cut_from (by rw [List.length_map]; omega), List.map_drop]
    have eC : cutV (zs.map V.str) none (some (x : Int)) = (zs.take x).map V.str := by
      rw [cut_to, List.map_take]
    refine ⟨B, C, (zs.drop x).map V.str, (zs.take x).map V.str, rfl, rfl, ?_, ?_, szOk (by rw [List.length_map, List.length_map, List.length_drop, List.length_take]; omega), fun M hM => ?_⟩
    · rw [← eB]
      exact sC _ _ upd_same
    · rw [← eC]
      exact upd_same
    have sM := same_upd (o := .lst ((zs.drop x).map V.str ++ (zs.take x).map V.str)) hM
    have s5 := (sB.trans sC).trans sM
    have oM := (P4.same (sB.trans sC)).off hM
    have hM5 : (L2.upd (L2.upd (L2.upd H4 B (.lst (cutV (zs.map V.str) (some (x : Int)) none))) C (.lst (cutV (zs.map V.str) none (some (x : Int))))) M (.lst ((zs.drop x).map V.str ++ (zs.take x).map V.str))) M = some (.lst ((zs.drop x ++ zs.take x).map V.str)) := by
      rw [upd_same, List.map_append]
    have P5 := P4.same s5
    have hl5 := s5 _ _ hl4
    have xt5 := xt4.same s5
    have K05 := (K03.trans K4).trans (skp (a := PL) s5)
    have nr : (zs.drop x ++ zs.take x).Nodup := (List.perm_append_comm.trans (by rw [List.take_append_drop])).nodup_iff.mpr nz
    have mr : ∀ z ∈ zs.drop x ++ zs.take x, z ∈ zs := fun z hz => (List.mem_append.mp hz).elim List.mem_of_mem_drop List.mem_of_mem_take
    have lr : (zs.drop x ++ zs.take x).length = zs.length := by
      rw [List.length_append, List.length_drop, List.length_take]
      omega
    generalize L2.upd (L2.upd (L2.upd H4 B (.lst (cutV (zs.map V.str) (some (x : Int)) none))) C (.lst (cutV (zs.map V.str) none (some (x : Int))))) M (.lst ((zs.drop x).map V.str ++ (zs.take x).map V.str)) = H5 at hM5 P5 hl5 xt5 K05 ⊢
    generalize zs.drop x ++ zs.take x = rot at nr mr lr hM5
    refine ⟨_, rfl, M, rfl, ⟨_, SqL.of hM5⟩, fun D2 hD2 => lc_listT (a := M) (A := PL) 4 (fun i H' acc => ∃ ss, TAll 10 K H' acc ss ∧ ss.all (setRowB · zs) = true ∧ (ss.map fstS).Sublist (rot.take i)) (fun i H H' acc k ⟨ts, x, y⟩ => ⟨ts, x.tk k, y⟩) P5 hM5 oM hD2 (by rw [List.length_map]; omega) (fun _ => ⟨[], .nil, rfl, List.nil_sublist _⟩) (fun _ => rfl) ?_ ?_⟩
    · rintro i v H6 acc hi P6 K6 ⟨ss, all, bs, sub⟩ _ N1 N2 k1 k2
      obtain ⟨z, hz, rfl⟩ := map_get hi
      have hir : i < rot.length := (List.getElem?_eq_some_iff.mp hz).1
      have mz := mr z (List.mem_of_getElem? hz)
      have et : rot.take (i + 1) = rot.take i ++ [z] := by
        rw [List.take_add_one, hz]
        rfl
      have hl6 := K6 _ _ hl5 ol
      refine ⟨_, rfl, PL, _, 3, rfl, P6, by omega, by decide, by decide, fun H7 d _ _ P7 K7 => ⟨_, _, rfl, rfl, _, rfl, ite2 (fun e => ?_) (fun e => ?_)⟩⟩
      · refine ⟨_, rfl, _, rfl, _, rfl, PL, _, l, zs, rfl, P7, by omega, K7 _ _ hl6 ol, ol, gz, l0, by omega, fun H8 v t P8 K8 xt wt => ⟨by show 2 ≤ sizeLine; decide, fun p hp => ?_⟩⟩
        have sp := same_upd (o := .tup [.str z, v]) hp
        have P9 := P8.same sp
        have K9 := (K7.trans K8).trans (skp (a := PL) sp)
        refine k1 _ _ P9 K9 ⟨ss ++ [.tup [.str z, t]], TAll.snoc (.tup (SqT.of upd_same) (by show 2 ≤ 10; decide) (.cons (good_th (gz z mz)) (.cons (xt.same sp) .nil))) (all.tk (tk_kp P6 P9 K9)), ?_, ?_⟩
        · rw [List.all_append, bs]
          show ((ofB (.str z) zs && worthB t zs) && true) = true
          rw [good_ofB (gz z mz) mz, wt]
          rfl
        · rw [List.map_append, et]
          exact sub.append (List.Sublist.refl _)
      · refine k2 _ (P7.mono (by omega)) K7 ⟨ss, all.tk (tk_kp P6 P7 K7), bs, ?_⟩
        rw [et]
        exact sub.trans (List.sublist_append_left _ _)
    rintro H6 acc6 P6 K6 hD6 lacc6 ⟨ss, all6, bs, sub⟩ oD6
    rw [List.length_map] at P6 sub lacc6
    rw [List.take_length] at sub
    refine ⟨D2, _, rfl, .inl ⟨SqL.of hD6, fun t2 ht2 => ?_⟩⟩
    have st2 := same_upd (o := .tup acc6) ht2
    refine ⟨_, rfl, _, rfl, _, rfl, by show 3 ≤ sizeLine; decide, fun p hp => ?_⟩
    have sp := same_upd (o := .tup [.str z0, .ref t, .ref t2]) hp
    have s26 := st2.trans sp
    have lss : ss.length ≤ 4 := by
      rw [← all6.len]
      omega
    refine q _ _ (.tup [.str z0, .tup ts, .tup ss]) ((P6.same s26).mono (by omega)) ((K05.trans K6).trans (skp s26)) (.tup (SqT.of upd_same) (by show 3 ≤ 10; decide) (.cons (good_th gz0) (.cons ((xt5.tk (tk_kp P5 P6 K6)).same s26) (.cons (.tup (ssqt sp (SqT.of upd_same)) (by omega) (all6.tk (tk_same s26))) .nil)))) ?_ rfl
    rw [command_eq, good_nameB gz0, decide_eq_true (show ts.length ≤ 4 by omega), decide_eq_true lss, bt, bs, decide_eq_true (nr.sublist sub)]
    rfl
def spLAsk (K : PySem.W.Frag) : Sp := fun vs H Q _ => ∃ (A : PA) (c : Nat) (l m : Addr) (zs ys : List Str) (k : Bool), vs = [.ref A.p, .ref l, .ref m, .bl k] ∧ Pool H A c ∧ c < 600000 ∧ H l = some (.lst (zs.map V.str)) ∧ Off A l ∧ (∀ z ∈ zs, GoodName z) ∧ 1 ≤ zs.length ∧ zs.length ≤ 4 ∧
  H m = some (.lst (ys.map V.str)) ∧ Off A m ∧ (∀ z ∈ ys, GoodName z) ∧ ys.length ≤ 8 ∧ ∀ (H' : Hp) (v : V) (t : Th), Pool H' A (c + 6) → Kp A H H' → TAt 10 K H' v t → askB t zs ys k = true → Q v H'
theorem ok_lask {f : Addr} {fd : FuncData} (F : Fun K "_law_ask" "_law_ask" s_law_ask f fd) (T : Bi mg) (c_law_draw : Cal P w K mg base 1 "_law_draw" ["_law_pool_here", "_law_many"] spDraw) (c_law_test : Cal P w K mg base 3 "_law_test" ["_law_pool_here", "_law_names_here"] (spLTest K)) :
    FnOk P w K mg base CX0 4 f fd ["_law_pool_here", "_law_cells_here", "_law_commands", "_law_keeps"] (spLAsk K) := by
  refine F.ok sc_law_ask (fun vs H Q E h => ?_) (fun cdv A outer s H vs Q E hr h => ?_)
  · obtain ⟨A, c, l, m, zs, ys, k, rfl, _⟩ := h
    rfl
  · obtain ⟨PL, c, l, m, zs, ys, k, rfl, P0, hc, hl, ol, gz, l0, l1, hm, om, gy, ly, q⟩ := h
    refine ⟨_, (pss_cons (ps_if (PW.pt (pw_and (pt_cmpR op_gt (pe_callB call_len_seq (by rfl) T.len PySem.boot_len (pa_cons (pv 2) pa_nil)) pe_int (nomark _)) (pw_and1 (pt_cmpR op_eq (pe_call c_law_draw.G (hr.mono (by decide)) (by rfl) c_law_draw.g c_law_draw.kp c_law_draw.b .nil pass0 (pa_cons (pv 0) (pa_cons pe_int pa_nil))) pe_int (nomark _)))))
        (pss_cons (ps_set (i := 4) sc_law_ask.nd rfl (.inl rfl) (pe_ix ix_list (pe_lst (pa_cons pe_str (pa_cons pe_str pa_nil))) (pe_call c_law_draw.G (hr.mono (by decide)) (by rfl) c_law_draw.g c_law_draw.kp c_law_draw.b .nil pass0 (pa_cons (pv 0) (pa_cons (pe_op op_add pe_int (pe_callTy call_int1 (by rfl) T.int (by decide +kernel) (pa_cons (pv 3) pa_nil))) pa_nil))) (fun _ _ => rfl)))
        (pss_one (ps_ret (pe_tup (pa_cons (pv 4) (pa_cons (pe_ix ix_list (pv 2) (pe_call c_law_draw.G (hr.mono (by decide)) (by rfl) c_law_draw.g c_law_draw.kp c_law_draw.b .nil pass0 (pa_cons (pv 0) (pa_cons (pe_callB call_len_seq (by rfl) T.len PySem.boot_len (pa_cons (pv 2) pa_nil)) pa_nil))) (fun _ _ => rfl)) pa_nil))))))
        pss_nil)
      (pss_one (ps_ret (pe_call c_law_test.G hr (by rfl) c_law_test.g c_law_test.kp c_law_test.b .nil pass0 (pa_cons (pv 0) (pa_cons (pv 1) pa_nil)))))), ?_⟩
    refine ⟨_, rfl, m, _, rfl, .inl (SqL.of hm), _, _, rfl, rfl, _, rfl, ite2 (fun e => ?_) (fun e => ?_)⟩
    · have lm : 0 < ys.length := by
        have := of_decide_eq_true e
        rw [List.length_map] at this
        omega
      refine ⟨_, rfl, PL, _, 2, rfl, P0, by omega, by decide, by decide, fun H1 d _ _ P1 K1 => ⟨rfl, _, rfl, ite2 (fun e1 => ?_) (fun e1 => ?_)⟩⟩
      · refine ⟨by show 2 ≤ sizeLine; decide, fun L hL => ?_⟩
        have sL := same_upd (o := .lst [.str "can", .str "last"]) hL
        have hm1 := sL _ _ (K1 _ _ hm om)
        have fin : ∀ (H2 : Hp) (x : Str), Pool H2 PL (c + 2) → Kp PL (L2.upd H1 L (.lst [.str "can", .str "last"])) H2 → x ∈ asksL → (k || decide (x = Str.ofString "can")) = true → ∀ H3 (j : Nat) (hj : j < ys.length), Pool H3 PL (c + 3) → Kp PL H2 H3 → ∀ p, H3 p = none →
            Q (.ref p) (L2.upd H3 p (.tup [.str x, .str ys[j]])) := fun H2 x P2 K2 hx hk H3 j hj P3 K3 p hp => by
          have sp := same_upd (o := .tup [.str x, .str ys[j]]) hp
          have gj := gy _ (List.getElem_mem hj)
          have hxg : x.length ≤ 100 ∧ ∀ c ∈ x.cps.toList, c < 1114112 := by
            have : ∀ z ∈ asksL, z.length ≤ 100 ∧ ∀ c ∈ z.cps.toList, c < 1114112 := by decide +kernel
            exact this x hx
          refine q _ _ (.tup [.str x, .str ys[j]]) ((P3.same sp).mono (by omega)) ((((K1.trans (skp sL)).trans K2).trans K3).trans (skp sp)) (.tup (SqT.of upd_same) (by show 2 ≤ 10; decide) (.cons (.str x hxg.1 hxg.2) (.cons (good_th gj) .nil))) ?_
          rw [ask_eq, decide_eq_true hx, good_ofB gj (List.getElem_mem hj), hk]
          rfl
        refine ⟨_, rfl, _, rfl, .inr ⟨k, rfl, _, _, rfl, rfl, PL, _, 1 + (if k = true then 1 else 0), by cases k <;> rfl, P1.same sL, by omega, by cases k <;> decide, by cases k <;> decide, fun H2 d d0 d1 P2 K2 => ?_⟩⟩
        obtain ⟨x, hx, hx2, hx3⟩ : ∃ x : Str, atI [V.str "can", .str "last"] d = some (.str x) ∧ x ∈ asksL ∧ (k || decide (x = Str.ofString "can")) = true := by
          have : d = 0 ∨ d = 1 := by
            cases k <;> simp at d1 <;> omega
          rcases this with rfl | rfl
          · exact ⟨"can", rfl, by decide +kernel, by cases k <;> decide +kernel⟩
          · cases k with
            | true => exact ⟨"last", rfl, by decide +kernel, rfl⟩
            | false => simp at d1
        have hL2 := K2 _ _ upd_same (P1.off hL)
        refine ⟨L, _, _, .str x, rfl, rfl, SqL.of hL2, hx, ?_⟩
        refine ⟨_, rfl, _, rfl, _, rfl, _, rfl, m, _, rfl, .inl (SqL.of (K2 _ _ hm1 om)), PL, _, (ys.length : Nat), by rw [List.length_map]; rfl, P2, by omega, by omega, by omega, fun H3 j j0 j1 P3 K3 => ?_⟩
        obtain ⟨j, rfl⟩ : ∃ i : Nat, j = (i : Int) := ⟨j.toNat, by omega⟩
        have hj : j < ys.length := by omega
        exact ⟨m, _, _, .str ys[j], rfl, rfl, SqL.of (K3 _ _ (K2 _ _ hm1 om) om), at_len hj, by show 2 ≤ sizeLine; decide, fun p hp => fin H2 x P2 K2 hx2 hx3 H3 j hj P3 K3 p hp⟩
      · exact ⟨_, rfl, _, rfl, PL, _, l, zs, rfl, P1, by omega, K1 _ _ hl ol, ol, gz, l0, by omega, fun H2 v t P2 K2 xt bt => q H2 v t (P2.mono (by omega)) (K1.trans K2) xt (test_ask bt)⟩
    · exact ⟨_, rfl, _, rfl, PL, _, l, zs, rfl, P0, by omega, hl, ol, gz, l0, by omega, fun H2 v t P2 K2 xt bt => q H2 v t (P2.mono (by omega)) K2 xt (test_ask bt)⟩
end

section
variable {P : Program} {w : World} {K : PySem.W.Frag} {mg : Str → Option Value} {base : Heap}
def spLMarks (K : PySem.W.Frag) : Sp := fun vs H Q _ => ∃ (A : PA) (c : Nat) (n l m : Addr) (ws zs ys : List Str) (k : Bool), vs = [.ref A.p, .ref n, .ref l, .ref m, .bl k] ∧ Pool H A c ∧ c < 500000 ∧ H n = some (.lst (ws.map V.str)) ∧ Off A n ∧ (∀ z ∈ ws, GoodName z) ∧ ws.length ≤ 8 ∧
  H l = some (.lst (zs.map V.str)) ∧ Off A l ∧ (∀ z ∈ zs, GoodName z) ∧ 1 ≤ zs.length ∧ zs.length ≤ 4 ∧ H m = some (.lst (ys.map V.str)) ∧ Off A m ∧ (∀ z ∈ ys, GoodName z) ∧ ys.length ≤ 8 ∧
  ∀ (H' : Hp) (v : V) (ts : List Th), Pool H' A (c + ws.length * 101) → Kp A H H' → TAt 10 K H' v (.tup ts) → ts.all (markB · zs ys k) = true → ts.map fstS = ws → Q v H'
theorem ok_lmarks {f : Addr} {fd : FuncData} (F : Fun K "_law_marks" "_law_marks" s_law_marks f fd) (T : Bi mg) (c_law_draw : Cal P w K mg base 1 "_law_draw" ["_law_pool_here", "_law_many"] spDraw) (c_law_ask : Cal P w K mg base 4 "_law_ask" ["_law_pool_here", "_law_cells_here", "_law_commands", "_law_keeps"] (spLAsk K)) :
    FnOk P w K mg base CX0 5 f fd ["_law_pool_here", "_law_names_here", "_law_cells_here", "_law_commands", "_law_keeps"] (spLMarks K) := by
  refine F.ok sc_law_marks (fun vs H Q E h => ?_) (fun cdv A outer s H vs Q E hr h => ?_)
  · obtain ⟨A, c, n, l, m, ws, zs, ys, k, rfl, _⟩ := h
    rfl
  · obtain ⟨PL, c, n, l, m, ws, zs, ys, k, rfl, P0, hc, hn, on, gw, lw, hl, ol, gz, l0, l1, hm, om, gy, ly, q⟩ := h
    refine ⟨_, (pss_cons (ps_set (i := 5) sc_law_marks.nd rfl (.inl rfl) (pe_lst pa_nil))
      (pss_cons (ps_for PassesOwn.never rfl (pi_list (pv 1)) (pg_name (i := 6) sc_law_marks.nd rfl (.inl rfl))
        (pss_cons (ps_set (i := 7) sc_law_marks.nd rfl (.inl rfl) (pe_lst pa_nil))
        (pss_cons (ps_for PassesOwn.never rfl (pi_range1 (by rfl) T.range (pa_cons (pe_ix ix_list (pe_lst (pa_cons pe_int (pa_cons pe_int (pa_cons pe_int (pa_cons pe_int (pa_cons pe_int (pa_cons pe_int pa_nil))))))) (pe_call c_law_draw.G (hr.mono (by decide)) (by rfl) c_law_draw.g c_law_draw.kp c_law_draw.b .nil pass0 (pa_cons (pv 0) (pa_cons pe_int pa_nil))) (fun _ _ => rfl)) pa_nil)) (pg_name (i := 8) sc_law_marks.nd rfl (.inl rfl))
          (pss_cons (ps_set (i := 9) sc_law_marks.nd rfl (.inl rfl) (pe_ix ix_list (pe_lst (pa_cons pe_int (pa_cons pe_int (pa_cons pe_int (pa_cons pe_int (pa_cons pe_int (pa_cons pe_int pa_nil))))))) (pe_call c_law_draw.G (hr.mono (by decide)) (by rfl) c_law_draw.g c_law_draw.kp c_law_draw.b .nil pass0 (pa_cons (pv 0) (pa_cons pe_int pa_nil))) (fun _ _ => rfl)))
          (pss_one (ps_expr (pe_bm PySem.F.plainAttrs_list PySem.F.slot_list_append PySem.F.type_list_append mt_append (pv 7) (pa_cons (pe_callTy call_tuple_of (by rfl) T.tuple (by decide +kernel) (pa_cons (pe_lc (own := [("_law_j", 10)]) (g := gName 10) rfl sc_law_marks.nd (pi_range1 (by rfl) T.range (pa_cons (pv 9) pa_nil)) (blkOk_by (own := [("_law_j", 10)]) (N := ["_law_pool_here", "_law_names_here", "_law_cells_here", "_law_commands", "_law_keeps", "_law_marks_here", "_law_name_here", "_law_rows", "_law_k", "_law_many", "_law_j"]) (sc := defScope s_law_marks) (by decide +kernel)) (fun _ _ _ _ _ => (pg_name (i := 10) sc_law_marks.nd rfl (.inl rfl))) (fun _ _ _ _ _ => pts_nil) (fun _ _ _ _ _ => (pe_call c_law_ask.G hr (by rfl) c_law_ask.g c_law_ask.kp c_law_ask.b .nil pass0 (pa_cons (pv 0) (pa_cons (pv 2) (pa_cons (pv 3) (pa_cons (pv 4) pa_nil))))))) pa_nil)) pa_nil))))))
        (pss_one (ps_expr (pe_bm PySem.F.plainAttrs_list PySem.F.slot_list_append PySem.F.type_list_append mt_append (pv 5) (pa_cons (pe_tup (pa_cons (pv 6) (pa_cons (pe_callTy call_tuple_of (by rfl) T.tuple (by decide +kernel) (pa_cons (pv 7) pa_nil)) pa_nil))) pa_nil)))))))
      (pss_one (ps_ret (pe_callTy call_tuple_of (by rfl) T.tuple (by decide +kernel) (pa_cons (pv 5) pa_nil)))))), ?_⟩
    refine ⟨by show 0 ≤ sizeLine; decide, fun C hC => ?_⟩
    have oC := P0.off hC
    have sC := same_upd (o := .lst []) hC
    refine ⟨_, rfl, n, rfl, ⟨_, SqL.of (sC _ _ hn)⟩, for_list (K := K) (a := n) (xs := ws.map V.str) (fun i σ H' => ∃ (y6 y7 y8 y9 : Option V) (ca : List V) (ts : List Th), σ = [some (.ref PL.p), some (.ref n), some (.ref l), some (.ref m), some (.bl k), some (.ref C), y6, y7, y8, y9, none] ∧ Pool H' PL (c + i * 101) ∧ Kp PL H H' ∧ H' C = some (.lst ca) ∧ TAll 10 K H' ca ts ∧ ts.all (markB · zs ys k) = true ∧ ts.map fstS = ws.take i)
      ⟨none, none, none, none, [], [], rfl, by rw [Nat.zero_mul]; exact P0.same sC, skp sC, upd_same, .nil, rfl, rfl⟩ (fun i σ H' _ ⟨_, _, _, _, _, _, _, _, k, _⟩ => SqL.of (k _ _ hn on)) ?_ ?_⟩
    · rintro i x σ H1 hi ⟨y6, y7, y8, y9, ca, ts, rfl, P1, K1, c1, all1, b1, f1⟩
      obtain ⟨z, hz, rfl⟩ := map_get hi
      have hil : i < ws.length := (List.getElem?_eq_some_iff.mp hz).1
      have gx := gw z (List.mem_of_getElem? hz)
      have lca : ca.length = i := by
        have e1 := congrArg List.length f1
        rw [List.length_map, List.length_take] at e1
        rw [all1.len]
        omega
      refine ⟨by show 0 ≤ sizeLine; decide, fun R hR => ?_⟩
      have sR := same_upd (o := .lst []) hR
      have oR := P1.off hR
      have hR0 := K1.free hR oR
      refine ⟨by show 6 ≤ sizeLine; decide, fun L hL => ?_⟩
      have sL := same_upd (o := .lst [.int 1, .int 0, .int 1, .int 2, .int 1, .int 4]) hL
      have P2 := (P1.same sR).same sL
      refine ⟨_, rfl, PL, _, 6, rfl, P2, by omega, by decide, by decide, fun H2 d d0 d1 P3 K3 => ?_⟩
      have hL2 := K3 _ _ upd_same ((P1.same sR).off hL)
      obtain ⟨r, hr2, r4⟩ : ∃ r : Nat, atI [V.int 1, .int 0, .int 1, .int 2, .int 1, .int 4] d = some (.int r) ∧ r ≤ 4 := by
        have : d = 0 ∨ d = 1 ∨ d = 2 ∨ d = 3 ∨ d = 4 ∨ d = 5 := by omega
        rcases this with rfl | rfl | rfl | rfl | rfl | rfl
        · exact ⟨1, rfl, by decide⟩
        · exact ⟨0, rfl, by decide⟩
        · exact ⟨1, rfl, by decide⟩
        · exact ⟨2, rfl, by decide⟩
        · exact ⟨1, rfl, by decide⟩
        · exact ⟨4, rfl, by decide⟩
      have K13 := ((skp (a := PL) sR).trans (skp sL)).trans K3
      have K03 : Kp PL H H2 := K1.trans K13
      have c3 := K13 _ _ c1 oC
      have R3 := K3 _ _ (sL _ _ (show (L2.upd H1 R (.lst [])) R = _ from upd_same)) oR
      have all3 := all1.tk (tk_kp P1 P3 K13)
      refine ⟨L, _, _, .int r, rfl, rfl, SqL.of hL2, hr2, (r : Int), rfl, by omega, by omega, for_range (lo := 0) (n := ((r : Int) - 0).toNat) (fun i2 σ H' => ∃ (y8 y9 : Option V) (ra : List V) (rs : List Th), σ = [some (.ref PL.p), some (.ref n), some (.ref l), some (.ref m), some (.bl k), some (.ref C), some (.str z), some (.ref R), y8, y9, none] ∧ Pool H' PL (c + i * 101 + 1 + i2 * 25) ∧ Kp PL H H' ∧ H' C = some (.lst ca) ∧ TAll 10 K H' ca ts ∧ H' R = some (.lst ra) ∧ TAll 10 K H' ra rs ∧ rs.all (askRowB · zs ys k) = true ∧ rs.length = i2)
        ⟨y8, y9, [], [], rfl, by rw [Nat.zero_mul]; exact P3, K03, c3, all3, R3, .nil, rfl, rfl⟩ ?_ ?_⟩
      · rintro i2 σ H3 hi2 ⟨y8, y9, ra, rs, rfl, P4, K4, c4, all4, R4, rall4, rb4, rl4⟩
        have lra : ra.length = i2 := by rw [rall4.len, rl4]
        refine ⟨by show 6 ≤ sizeLine; decide, fun L2 hL2 => ?_⟩
        have sL2 := same_upd (o := .lst [.int 1, .int 0, .int 1, .int 2, .int 4, .int 1]) hL2
        refine ⟨_, rfl, PL, _, 6, rfl, P4.same sL2, by omega, by decide, by decide, fun H4 d d0 d1 P5 K5 => ?_⟩
        have hL4 := K5 _ _ upd_same (P4.off hL2)
        obtain ⟨j, hj2, j4⟩ : ∃ r : Nat, atI [V.int 1, .int 0, .int 1, .int 2, .int 4, .int 1] d = some (.int r) ∧ r ≤ 4 := by
          have : d = 0 ∨ d = 1 ∨ d = 2 ∨ d = 3 ∨ d = 4 ∨ d = 5 := by omega
          rcases this with rfl | rfl | rfl | rfl | rfl | rfl
          · exact ⟨1, rfl, by decide⟩
          · exact ⟨0, rfl, by decide⟩
          · exact ⟨1, rfl, by decide⟩
          · exact ⟨2, rfl, by decide⟩
          · exact ⟨4, rfl, by decide⟩
          · exact ⟨1, rfl, by decide⟩
        have K45 := (skp (a := PL) sL2).trans K5
        have K05 := K4.trans K45
        have tk5 := tk_kp (K := K) P4 P5 K45
        have R5 := K45 _ _ R4 oR
        have c5 := K45 _ _ c4 oC
        refine ⟨L2, _, _, .int j, rfl, rfl, SqL.of hL4, hj2, ?_⟩
        refine ⟨_, rfl, .inl ⟨rfl, _, SqL.of R5⟩, _, rfl, (j : Int), rfl, by omega, by omega, fun D hD => lc_rangeT (a := PL) 6 (fun i H' acc => ∃ as, TAll 10 K H' acc as ∧ as.all (askB · zs ys k) = true ∧ as.length = i) (fun i H H' acc k ⟨ts, x, y⟩ => ⟨ts, x.tk k, y⟩) P5 hD (by omega) (fun _ => ⟨[], .nil, rfl, rfl⟩) (fun _ => rfl) ?_ ?_⟩
        · rintro i3 H5 acc hi3 P6 K6 ⟨as, all, bt, lt⟩ _ N1 N2 k1 k2
          have K06 := K05.trans K6
          refine ⟨_, rfl, _, rfl, _, rfl, _, rfl, PL, _, l, m, zs, ys, k, rfl, P6, by omega, K06 _ _ hl ol, ol, gz, l0, l1, K06 _ _ hm om, om, gy, ly, fun H6 v t P7 K7 xt bt3 => k1 v H6 P7 K7 ⟨as ++ [t], TAll.snoc xt (all.tk (tk_kp P6 P7 K7)), ?_, ?_⟩⟩
          · rw [List.all_append, bt]
            show (askB t zs ys k && true) = true
            rw [bt3]
            rfl
          · rw [List.length_append, lt]
            rfl
        rintro H5 acc P6 K6 hD5 lacc ⟨as, all5, bt5, lt5⟩ oD
        have hj0 : ((j : Int) - 0).toNat = j := by omega
        refine ⟨D, _, rfl, .inl ⟨SqL.of hD5, fun t ht => ?_⟩⟩
        have st := same_upd (o := .tup acc) ht
        have K67 := K6.trans (skp (a := PL) st)
        have P7 := P6.same st
        have tk7 := tk_kp (K := K) P5 P7 K67
        have R7 := K67 _ _ R5 oR
        have c7 := K67 _ _ c5 oC
        have nCR : C ≠ R := fun e => by
          have z1 := K1.free hR oR
          rw [← e] at hR
          rw [hR] at c1
          cases c1
        refine ⟨R, _, _, rfl, rfl, R7, szLt (by omega), ?_⟩
        have tk8 := tk_list (K := K) (ys := ra ++ [.ref t]) R7
        refine ⟨some (.int (0 + i2)), some (.int j), ra ++ [.ref t], rs ++ [.tup as], rfl, ?_, ?_, ?_, ((all4.tk tk5).tk tk7).tk tk8, upd_same, ?_, ?_, ?_⟩
        · refine (P7.upd oR).mono ?_
          rw [Nat.succ_mul]
          omega
        · exact Kp.mut (K05.trans K67) hR0
        · rw [upd_ne nCR]
          exact c7
        · exact TAll.snoc (.tup (tk8.t _ _ (SqT.of upd_same)) (by omega) ((all5.tk (tk_same st)).tk tk8)) (((rall4.tk tk5).tk tk7).tk tk8)
        · rw [List.all_append, rb4]
          show ((decide (as.length ≤ 4) && as.all (askB · zs ys k)) && true) = true
          rw [decide_eq_true (show as.length ≤ 4 by omega), bt5]
          rfl
        · rw [List.length_append, rl4]
          rfl
      · rintro σ H3 ⟨y8, y9, ra, rs, rfl, P4, K4, c4, all4, R4, rall4, rb4, rl4⟩
        have hr0 : ((r : Int) - 0).toNat = r := by omega
        rw [hr0] at P4 rl4
        refine ⟨_, rfl, .inl ⟨rfl, _, SqL.of c4⟩, _, rfl, _, rfl, R, _, rfl, .inl ⟨SqL.of R4, fun t ht => ⟨by show 2 ≤ sizeLine; decide, fun p hp => ?_⟩⟩⟩
        have st := same_upd (o := .tup ra) ht
        have sp := same_upd (o := .tup [.str z, .ref t]) hp
        have s5 := st.trans sp
        have c5 := s5 _ _ c4
        refine ⟨C, _, _, rfl, rfl, c5, szLt (by omega), ?_⟩
        have tk6 := tk_list (K := K) (ys := ca ++ [.ref p]) c5
        have tk5 := tk_same (K := K) s5
        refine ⟨some (.str z), some (.ref R), y8, y9, ca ++ [.ref p], ts ++ [.tup [.str z, .tup rs]], rfl, ?_, ?_, upd_same, ?_, ?_, ?_⟩
        · refine ((P4.same s5).upd oC).mono ?_
          rw [Nat.succ_mul]
          omega
        · exact Kp.mut (K4.trans (skp s5)) hC
        · exact TAll.snoc (.tup (tk6.t _ _ (SqT.of upd_same)) (by show 2 ≤ 10; decide) (.cons (good_th gx) (.cons (.tup (tk6.t _ _ (ssqt sp (SqT.of upd_same))) (by rw [rall4.len]; omega) ((rall4.tk tk5).tk tk6)) .nil))) ((all4.tk tk5).tk tk6)
        · rw [List.all_append, b1]
          show (markB (.tup [.str z, .tup rs]) zs ys k && true) = true
          rw [mark_eq, good_nameB gx, decide_eq_true (show rs.length ≤ 4 by omega), rb4]
          rfl
        · rw [List.map_append, f1, List.take_add_one, hz]
          rfl
    · rintro σ H1 ⟨y6, y7, y8, y9, ca, ts, rfl, P1, K1, c1, all1, b1, f1⟩
      rw [List.length_map] at P1 f1
      rw [List.take_length] at f1
      refine ⟨_, rfl, C, _, rfl, .inl ⟨SqL.of c1, fun t ht => ?_⟩⟩
      have st := same_upd (o := .tup ca) ht
      have e1 := congrArg List.length f1
      rw [List.length_map] at e1
      exact q _ _ ts (P1.same st) (K1.trans (skp st)) (.tup (SqT.of upd_same) (by rw [all1.len]; omega) (all1.tk (tk_same st))) b1 f1
end

section
variable {P : Program} {w : World} {K : PySem.W.Frag} {mg : Str → Option Value} {base : Heap}
def spLProgram (K : PySem.W.Frag) : Sp := fun vs H Q _ => ∃ (A : PA) (c : Nat) (room : Int) (mc mm : Nat), vs = [.ref A.p, .int room, .int mc, .int mm] ∧ Pool H A c ∧ c < 400000 ∧ mc ≤ 8 ∧ mm ≤ 8 ∧ (mc : Int) + 1 ≤ room ∧ room ≤ 100000 ∧
  ∀ (H' : Hp) (p : Addr) (a b d : V) (cs ms ks : List Th) (k : Bool), Pool H' A (c + 3000) → Kp A H H' → SqT K H' p [a, b, d, .bl k] → TAt 10 K H' a (.tup cs) → TAt 10 K H' b (.tup ms) → TAt 10 K H' d (.tup ks) → progB (.tup [.tup cs, .tup ms, .tup ks, .bl k]) = true → ms.length ≤ mc → ks.length ≤ mm → prodI cs * (if k = true then (ms.length : Int) + 1 else 1) ≤ room → Q (.ref p) H'
theorem ok_lprogram {f : Addr} {fd : FuncData} (F : Fun K "_law_program" "_law_program" s_law_program f fd) (T : Bi mg) (c_law_draw : Cal P w K mg base 1 "_law_draw" ["_law_pool_here", "_law_many"] spDraw) (c_law_names : Cal P w K mg base 3 "_law_names" ["_law_pool_here", "_law_many"] spLNames)
    (c_law_cells : Cal P w K mg base 2 "_law_cells" ["_law_pool_here", "_law_names_here", "_law_room"] (spLCells K)) (c_law_command : Cal P w K mg base 4 "_law_command" ["_law_pool_here", "_law_name_here", "_law_names_here"] (spLCommand K)) (c_law_marks : Cal P w K mg base 5 "_law_marks" ["_law_pool_here", "_law_names_here", "_law_cells_here", "_law_commands", "_law_keeps"] (spLMarks K)) :
    FnOk P w K mg base CX0 6 f fd ["_law_pool_here", "_law_room", "_law_commands", "_law_marks_here"] (spLProgram K) := by
  refine F.ok sc_law_program (fun vs H Q E h => ?_) (fun cdv A outer s H vs Q E hr h => ?_)
  · obtain ⟨A, c, room, mc, mm, rfl, _⟩ := h
    rfl
  · obtain ⟨PL, c, room, mc, mm, rfl, P0, hc, lc, lm, r0, r1, q⟩ := h
    refine ⟨_, (pss_cons (ps_set (i := 4) sc_law_program.nd rfl (.inl rfl) (pe_cmpR op_eq (pe_call c_law_draw.G (hr.mono (by decide)) (by rfl) c_law_draw.g c_law_draw.kp c_law_draw.b .nil pass0 (pa_cons (pv 0) (pa_cons pe_int pa_nil))) pe_int (nomark _)))
      (pss_cons (ps_set (i := 5) sc_law_program.nd rfl (.inl rfl) (pe_cmpR op_eq (pe_call c_law_draw.G (hr.mono (by decide)) (by rfl) c_law_draw.g c_law_draw.kp c_law_draw.b .nil pass0 (pa_cons (pv 0) (pa_cons pe_int pa_nil))) pe_int (nomark _)))
      (pss_cons (ps_set (i := 6) sc_law_program.nd rfl (.inl rfl) (pe_op op_add pe_int (pe_call c_law_draw.G (hr.mono (by decide)) (by rfl) c_law_draw.g c_law_draw.kp c_law_draw.b .nil pass0 (pa_cons (pv 0) (pa_cons pe_int pa_nil)))))
      (pss_cons (ps_set (i := 2) sc_law_program.nd rfl (.inl rfl) (pe_call c_law_draw.G (hr.mono (by decide)) (by rfl) c_law_draw.g c_law_draw.kp c_law_draw.b .nil pass0 (pa_cons (pv 0) (pa_cons (pe_op op_add (pv 2) pe_int) pa_nil))))
      (pss_cons (ps_set (i := 3) sc_law_program.nd rfl (.inl rfl) (pe_call c_law_draw.G (hr.mono (by decide)) (by rfl) c_law_draw.g c_law_draw.kp c_law_draw.b .nil pass0 (pa_cons (pv 0) (pa_cons (pe_op op_add (pv 3) pe_int) pa_nil))))
      (pss_cons (ps_set (i := 7) sc_law_program.nd rfl (.inl rfl) (pe_call c_law_names.G (hr.mono (by decide)) (by rfl) c_law_names.g c_law_names.kp c_law_names.b .nil pass0 (pa_cons (pv 0) (pa_cons pe_int pa_nil))))
      (pss_cons (ps_set (i := 8) sc_law_program.nd rfl (.inr rfl) (pe_slice sl_list (pv 7) po_none (po_some (pv 6))))
      (pss_cons (ps_set (i := 9) sc_law_program.nd rfl (.inl rfl) (pe_slice sl_list (pe_revL (pv 7)) po_none (po_some (pv 3))))
      (Evl.pss_cut (ps_if (pt_not (pt_val (pv 5)))
        (pss_cons (ps_set (i := 8) sc_law_program.nd rfl (.inr rfl) (pe_call c_law_names.G (hr.mono (by decide)) (by rfl) c_law_names.g c_law_names.kp c_law_names.b .nil pass0 (pa_cons (pv 0) (pa_cons (pv 6) pa_nil))))
        (pss_one (ps_set (i := 9) sc_law_program.nd rfl (.inl rfl) (pe_call c_law_names.G (hr.mono (by decide)) (by rfl) c_law_names.g c_law_names.kp c_law_names.b .nil pass0 (pa_cons (pv 0) (pa_cons (pv 3) pa_nil))))))
        pss_nil)
      (pss_cons (ps_set (i := 7) sc_law_program.nd rfl (.inl rfl) (pe_slice sl_list (pv 7) po_none (po_some (pv 2))))
      (Evl.pss_cut (ps_if (pt_val (pv 4))
        (pss_one (ps_set (i := 1) sc_law_program.nd rfl (.inl rfl) (pe_op op_fdiv (pv 1) (pe_op op_add pe_int (pv 2)))))
        pss_nil)
      (pss_cons (ps_set (i := 10) sc_law_program.nd rfl (.inl rfl) (pe_call c_law_cells.G (hr.mono (by decide)) (by rfl) c_law_cells.g c_law_cells.kp c_law_cells.b .nil pass0 (pa_cons (pv 0) (pa_cons (pv 8) (pa_cons (pv 1) pa_nil)))))
      (pss_cons (ps_set (i := 11) sc_law_program.nd rfl (.inl rfl) (pe_callTy call_tuple_of (by rfl) T.tuple (by decide +kernel) (pa_cons (pe_lc (own := [("_law_name_here", 12)]) (g := gName 12) rfl sc_law_program.nd (pi_list (pv 7)) (blkOk_by (own := [("_law_name_here", 12)]) (N := ["_law_pool_here", "_law_room", "_law_commands", "_law_marks_here", "_law_keeps", "_law_shared", "_law_many", "_law_called", "_law_cells_here", "_law_worn_here", "_law_inner", "_law_rows", "_law_name_here"]) (sc := defScope s_law_program) (by decide +kernel)) (fun _ _ _ _ _ => (pg_name (i := 12) sc_law_program.nd rfl (.inl rfl))) (fun _ _ _ _ _ => pts_nil) (fun _ _ _ _ _ => (pe_call c_law_command.G (hr.mono (by decide)) (by rfl) c_law_command.g c_law_command.kp c_law_command.b .nil pass0 (pa_cons (pv 0) (pa_cons (pv 12) (pa_cons (pv 8) pa_nil)))))) pa_nil)))
      (pss_one (ps_ret (pe_tup (pa_cons (pv 10) (pa_cons (pv 11) (pa_cons (pe_call c_law_marks.G hr (by rfl) c_law_marks.g c_law_marks.kp c_law_marks.b .nil pass0 (pa_cons (pv 0) (pa_cons (pv 9) (pa_cons (pv 8) (pa_cons (pv 7) (pa_cons (pv 4) pa_nil)))))) (pa_cons (pv 4) pa_nil)))))))))))))))))))), ?_⟩
    refine ⟨_, rfl, PL, _, 2, rfl, P0, by omega, by decide, by decide, fun H1 x1 _ _ P1 K1 => ⟨rfl, ?_⟩⟩
    generalize decide (V.int x1 = V.int 1) = keeps
    refine ⟨_, rfl, PL, _, 3, rfl, P1, by omega, by decide, by decide, fun H2 x2 _ _ P2 K2 => ⟨rfl, ?_⟩⟩
    generalize decide (V.int x2 = V.int 0) = shared
    refine ⟨_, rfl, PL, _, 4, rfl, P2, by omega, by decide, by decide, fun H3 x3 x30 x31 P3 K3 => ⟨_, _, rfl, rfl, ?_⟩⟩
    obtain ⟨many, hmany, m1, m4⟩ : ∃ n : Nat, (1 : Int) + x3 = (n : Int) ∧ 1 ≤ n ∧ n ≤ 4 := ⟨(1 + x3).toNat, by omega, by omega, by omega⟩
    dsimp only
    rw [hmany]
    refine ⟨_, rfl, _, rfl, _, _, rfl, rfl, PL, _, (mc : Int) + 1, rfl, P3, by omega, by omega, by omega, fun H4 x4 x40 x41 P4 K4 => ?_⟩
    obtain ⟨nc, rfl⟩ : ∃ j : Nat, x4 = (j : Int) := ⟨x4.toNat, by omega⟩
    refine ⟨_, rfl, _, rfl, _, _, rfl, rfl, PL, _, (mm : Int) + 1, rfl, P4, by omega, by omega, by omega, fun H5 x5 x50 x51 P5 K5 => ?_⟩
    obtain ⟨nm, rfl⟩ : ∃ j : Nat, x5 = (j : Int) := ⟨x5.toNat, by omega⟩
    refine ⟨_, rfl, PL, _, 8, rfl, P5, by omega, by decide, fun H6 n8 z8 P6 K6 h8 o8 nd8 g8 l8 => ?_⟩
    have l8 : z8.length = 8 := l8
    have K06 := ((((K1.trans K2).trans K3).trans K4).trans K5).trans K6
    refine ⟨_, rfl, _, rfl, many, rfl, n8, _, rfl, SqL.of h8, fun C hC => ?_⟩
    have sC := same_upd (o := .lst (cutV (z8.map V.str) none (some (many : Int)))) hC
    have oC := P6.off hC
    have hC1 : (L2.upd H6 C (.lst (cutV (z8.map V.str) none (some (many : Int))))) C = some (.lst ((z8.take many).map V.str)) := by
      rw [upd_same, cut_to, List.map_take]
    refine ⟨_, rfl, n8, _, rfl, SqL.of (sC _ _ h8), fun B hB => ?_⟩
    have sB := same_upd (o := .lst (z8.map V.str).reverse) hB
    refine ⟨_, rfl, nm, rfl, B, _, rfl, SqL.of upd_same, fun W hW => ?_⟩
    have sW := same_upd (o := .lst (cutV (z8.map V.str).reverse none (some (nm : Int)))) hW
    have P7 := ((P6.same sC).same sB)
    have oW := P7.off hW
    have hW1 : (L2.upd (L2.upd (L2.upd H6 C (.lst (cutV (z8.map V.str) none (some (many : Int))))) B (.lst (z8.map V.str).reverse)) W (.lst (cutV (z8.map V.str).reverse none (some (nm : Int))))) W = some (.lst ((z8.reverse.take nm).map V.str)) := by
      rw [upd_same, cut_to, List.map_take, List.map_reverse]
    have s7 := (sC.trans sB).trans sW
    have P7 := P7.same sW
    have K07 := K06.trans (skp (a := PL) s7)
    have h87 := s7 _ _ h8
    have hC7 := sW _ _ (sB _ _ hC1)
    generalize L2.upd (L2.upd (L2.upd H6 C (.lst (cutV (z8.map V.str) none (some (many : Int))))) B (.lst (z8.map V.str).reverse)) W (.lst (cutV (z8.map V.str).reverse none (some (nm : Int)))) = H7 at hW1 P7 K07 h87 hC7
    refine ⟨fun σ H' => ∃ (cl wl : Addr) (zs ws : List Str), σ = [some (.ref PL.p), some (.int room), some (.int nc), some (.int nm), some (.bl keeps), some (.bl shared), some (.int many), some (.ref n8), some (.ref cl), some (.ref wl), none, none, none] ∧ Pool H' PL (c + 200) ∧ Kp PL H H' ∧ H' n8 = some (.lst (z8.map V.str)) ∧
      H' cl = some (.lst (zs.map V.str)) ∧ Off PL cl ∧ zs.Nodup ∧ (∀ z ∈ zs, GoodName z) ∧ zs.length = many ∧ H' wl = some (.lst (ws.map V.str)) ∧ Off PL wl ∧ ws.Nodup ∧ (∀ z ∈ ws, GoodName z) ∧ ws.length = nm, ?_, ?_⟩
    · refine ⟨_, rfl, _, rfl, ?_⟩
      cases shared with
      | true =>
        refine iteF ⟨C, W, z8.take many, z8.reverse.take nm, rfl, P7.mono (by omega), K07, h87, hC7, oC, nd8.sublist (List.take_sublist _ _), fun z hz => g8 z (List.mem_of_mem_take hz), by rw [List.length_take]; omega, hW1, oW, ((List.reverse_perm _).nodup_iff.mpr nd8).sublist (List.take_sublist _ _), fun z hz => g8 z (List.mem_reverse.mp (List.mem_of_mem_take hz)), by rw [List.length_take, List.length_reverse]; omega⟩
      | false =>
        refine iteT ⟨_, rfl, _, rfl, PL, _, many, rfl, P7, by omega, by omega, fun H8 cl zs P8 K8 hcl ocl ndc gc lc2 => ?_⟩
        refine ⟨_, rfl, _, rfl, PL, _, nm, rfl, P8, by omega, by omega, fun H9 wl ws P9 K9 hwl owl ndw gw lw2 => ?_⟩
        exact ⟨cl, wl, zs, ws, rfl, P9.mono (by omega), (K07.trans K8).trans K9, K9 _ _ (K8 _ _ h87 o8) o8, K9 _ _ hcl ocl, ocl, ndc, gc, lc2, hwl, owl, ndw, gw, lw2⟩
    rintro σ H8 ⟨cl, wl, zs, ws, rfl, P8, K8, h88, hcl, ocl, ndc, gc, lc2, hwl, owl, ndw, gw, lw2⟩
    refine ⟨_, rfl, _, rfl, nc, rfl, n8, _, rfl, SqL.of h88, fun M hM => ?_⟩
    have sM := same_upd (o := .lst (cutV (z8.map V.str) none (some (nc : Int)))) hM
    have oM := P8.off hM
    have hM1 : (L2.upd H8 M (.lst (cutV (z8.map V.str) none (some (nc : Int))))) M = some (.lst ((z8.take nc).map V.str)) := by
      rw [upd_same, cut_to, List.map_take]
    have P9 := P8.same sM
    have K9 := K8.trans (skp (a := PL) sM)
    have hcl9 := sM _ _ hcl
    have hwl9 := sM _ _ hwl
    have lys : (z8.take nc).length = nc := by
      rw [List.length_take]
      omega
    have gys : ∀ z ∈ z8.take nc, GoodName z := fun z hz => g8 z (List.mem_of_mem_take hz)
    have nys : (z8.take nc).Nodup := nd8.sublist (List.take_sublist _ _)
    generalize L2.upd H8 M (.lst (cutV (z8.map V.str) none (some (nc : Int)))) = H9 at hM1 P9 K9 hcl9 hwl9
    generalize z8.take nc = ys at hM1 lys gys nys
    refine ⟨fun σ H' => ∃ rm : Int, σ = [some (.ref PL.p), some (.int rm), some (.int nc), some (.int nm), some (.bl keeps), some (.bl shared), some (.int many), some (.ref M), some (.ref cl), some (.ref wl), none, none, none] ∧ 1 ≤ rm ∧ rm ≤ 100000 ∧ H' = H9 ∧ rm * (if keeps = true then (nc : Int) + 1 else 1) ≤ room, ?_, ?_⟩
    · refine ⟨_, rfl, _, rfl, ?_⟩
      cases keeps with
      | true => exact iteT ⟨_, rfl, _, rfl, _, _, rfl, rfl, _, _, rfl, rfl, ⟨by omega, by omega⟩, _, rfl, div_lo (by omega) (by omega), Int.le_trans (div_hi (by omega) (by omega)) r1, rfl, by rw [if_pos rfl, show (nc : Int) + 1 = 1 + (nc : Int) by omega]; exact Int.ediv_mul_le _ (by omega)⟩
      | false => exact iteF ⟨room, rfl, by omega, r1, rfl, by rw [if_neg (by decide), Int.mul_one]; omega⟩
    rintro σ H9' ⟨rm, rfl, rm0, rm1, rfl, rm2⟩
    refine ⟨_, rfl, _, rfl, _, rfl, PL, _, cl, zs, rm, rfl, P9, by omega, hcl9, ocl, gc, by omega, rm0, rm1, fun H10 v1 cs P10 K10 x1 bc fc w0 w1 => ?_⟩
    have hM10 := K10 _ _ hM1 oM
    refine ⟨_, rfl, M, rfl, ⟨_, SqL.of hM10⟩, fun D hD => lc_listT (a := M) (A := PL) 38 (fun i H' acc => ∃ ms, TAll 10 K H' acc ms ∧ ms.all (commandB · zs) = true ∧ ms.map fstS = ys.take i) (fun i H H' acc k ⟨ts, x, y⟩ => ⟨ts, x.tk k, y⟩) P10 hM10 oM hD (by rw [List.length_map]; omega) (fun _ => ⟨[], .nil, rfl, rfl⟩) (fun _ => rfl) ?_ ?_⟩
    · rintro i v H11 acc hi P11 K11 ⟨ms, all, bm, fm⟩ _ N1 N2 k1 k2
      obtain ⟨z, hz, rfl⟩ := map_get hi
      have hir : i < ys.length := (List.getElem?_eq_some_iff.mp hz).1
      have K911 := K10.trans K11
      refine ⟨_, rfl, _, rfl, _, rfl, PL, _, z, cl, zs, rfl, P11, by omega, gys z (List.mem_of_getElem? hz), K911 _ _ hcl9 ocl, ocl, gc, ndc, by omega, by omega, fun H12 v t P12 K12 xt bt ft => k1 v H12 P12 K12 ⟨ms ++ [t], TAll.snoc xt (all.tk (tk_kp P11 P12 K12)), ?_, ?_⟩⟩
      · rw [List.all_append, bm]
        show (commandB t zs && true) = true
        rw [bt]
        rfl
      · rw [List.map_append, fm, List.take_add_one, hz, ← ft]
        rfl
    rintro H11 acc P11 K11 hD11 lacc ⟨ms, all, bm, fm⟩ oD
    rw [List.length_map] at P11 fm lacc
    rw [List.take_length] at fm
    have lms : ms.length = ys.length := by rw [← fm, List.length_map]
    refine ⟨D, _, rfl, .inl ⟨SqL.of hD11, fun t2 ht2 => ?_⟩⟩
    have st2 := same_upd (o := .tup acc) ht2
    have P12 := P11.same st2
    have K1012 := K11.trans (skp (a := PL) st2)
    have x1' := x1.tk (tk_kp P10 P12 K1012)
    have x2' : TAt 10 K (L2.upd H11 t2 (.tup acc)) (.ref t2) (.tup ms) := .tup (SqT.of upd_same) (by omega) (all.tk (tk_same st2))
    have K912 := K10.trans K1012
    refine ⟨_, rfl, _, rfl, _, rfl, _, rfl, _, rfl, _, rfl, _, rfl, PL, _, wl, cl, M, ws, zs, ys, keeps, rfl, P12, by omega, K912 _ _ hwl9 owl, owl, gw, by omega, K912 _ _ hcl9 ocl, ocl, gc, by omega, by omega, K912 _ _ hM1 oM, oM, gys, by omega, fun H13 v3 ks P13 K13 x3 bk fk => ⟨_, rfl, by show 4 ≤ sizeLine; decide, fun p hp => ?_⟩⟩
    have sp := same_upd (o := .tup [v1, .ref t2, v3, .bl keeps]) hp
    have tk13 := tk_kp (K := K) P12 P13 K13
    refine q _ p v1 (.ref t2) v3 cs ms ks keeps ((P13.same sp).mono (by omega)) (((K9.trans K912).trans K13).trans (skp sp)) (SqT.of upd_same) ((x1'.tk tk13).same sp) ((x2'.tk tk13).same sp) (x3.same sp) ?_ (by omega) (by have e := congrArg List.length fk; rw [List.length_map] at e; omega) (by rw [show (ms.length : Int) = (nc : Int) by omega]; exact Int.le_trans (Int.mul_le_mul_of_nonneg_right w1 (by split <;> omega)) rm2)
    have lcs : cs.length = zs.length := by rw [← fc, List.length_map]
    have lks : ks.length = ws.length := by rw [← fk, List.length_map]
    rw [prog_eq, fc, fm, fk, bc, bm, bk, decide_eq_true (show 1 ≤ cs.length by omega), decide_eq_true (show cs.length ≤ 4 by omega), decide_eq_true (show ms.length ≤ 8 by omega), decide_eq_true (show ks.length ≤ 8 by omega), decide_eq_true ndc, decide_eq_true nys, decide_eq_true ndw]
    rfl
end

/-! ### what a program does -/
structure Pg where
  cs : List Th
  ms : List Th
  ks : List Th
  keeps : Bool
def Pg.th (p : Pg) : Th := .tup [.tup p.cs, .tup p.ms, .tup p.ks, .bl p.keeps]
def Pg.ns (p : Pg) : List Str := p.cs.map fstS
def Pg.called (p : Pg) : List Str := p.ms.map fstS
abbrev Rm := List Int
def isS : Str := Str.ofString "is"
def notS : Str := Str.ofString "not"
def lastS : Str := Str.ofString "last"
def worthV (ns : List Str) (r : Rm) : Th → Int
  | .tup [.str z, .int i] => r.getD (ixOf ns z) 0 + i
  | .int i => i
  | _ => 0
def signV (x : Str) (h d : Int) : Bool := if x = isS then decide (h = d) else if x = notS then !decide (h = d) else decide (h < d)
def testV (ns : List Str) (r : Rm) : Th → Bool
  | .tup [.str z, .str x, c] => signV x (r.getD (ixOf ns z) 0) (worthV ns r c)
  | _ => false
def testsOf : Th → List Th
  | .tup [_, .tup ts, _] => ts
  | _ => []
def setsOf : Th → List Th
  | .tup [_, _, .tup ss] => ss
  | _ => []
def comeB (ns : List Str) (r : Rm) (t : Th) : Bool := (testsOf t).all (testV ns r)
def firstI : Th → Int
  | .tup [_, _, .int n] => n
  | _ => 0
def setV (p : Pg) (r : Rm) (f : Rm) : Th → Rm
  | .tup [.str z, w] => f.set (ixOf p.ns z) (worthV p.ns r w % szI (p.cs.getD (ixOf p.ns z) .non))
  | _ => f
def setsV (p : Pg) (k : Nat) (r : Rm) : Rm := (setsOf (p.ms.getD k .non)).foldl (setV p r) r
def nextV (p : Pg) (k : Nat) (r : Rm) : Rm := if p.keeps = true then (setsV p k r).set p.cs.length (k : Int) else setsV p k r
def firstV (p : Pg) : Rm := p.cs.map firstI ++ if p.keeps = true then [-1] else []
def succO (p : Pg) (r : Rm) (k : Nat) : Option Rm := if comeB p.ns r (p.ms.getD k .non) = true then some (nextV p k r) else none
def succV (p : Pg) (r : Rm) : List Rm := (List.range p.ms.length).filterMap (succO p r)
def rowsOf : Th → List Th
  | .tup [_, .tup rows] => rows
  | _ => []
def asksOf : Th → List Th
  | .tup as => as
  | _ => []
def askV (p : Pg) (r : Rm) (t : Th) : Bool := match t with
  | .tup [.str x, .str z] => if x = lastS then decide (r.getD p.cs.length 0 = ((ixOf p.called z : Nat) : Int)) else comeB p.ns r (p.ms.getD (ixOf p.called z) .non)
  | t => testV p.ns r t
def rowV (p : Pg) (r : Rm) (t : Th) : Bool := (asksOf t).all (askV p r)
def markV (p : Pg) (r : Rm) (t : Th) : Bool := (rowsOf t).any (rowV p r)
def wornV (p : Pg) (r : Rm) : List Str := (p.ks.filter (markV p r)).map fstS
structure GoodPg (p : Pg) : Prop where
  c1 : 1 ≤ p.cs.length
  c4 : p.cs.length ≤ 4
  cells : ∀ t ∈ p.cs, cellB t = true
  m8 : p.ms.length ≤ 8
  cmds : ∀ t ∈ p.ms, commandB t p.ns = true
  k8 : p.ks.length ≤ 8
  marks : ∀ t ∈ p.ks, markB t p.ns p.called p.keeps = true
  cn : p.ns.Nodup
  mn : p.called.Nodup
  kn : (p.ks.map fstS).Nodup
theorem good_pg {cs ms ks : List Th} {k : Bool} (h : progB (.tup [.tup cs, .tup ms, .tup ks, .bl k]) = true) : GoodPg ⟨cs, ms, ks, k⟩ := by
  rw [prog_eq] at h
  simp only [Bool.and_eq_true, List.all_eq_true] at h
  obtain ⟨h1, h2, h3, h4, h5, h6, h7, h8, h9, h10⟩ := h
  exact ⟨of_decide_eq_true h1, of_decide_eq_true h2, h3, of_decide_eq_true h4, h5, of_decide_eq_true h6, h7, of_decide_eq_true h8, of_decide_eq_true h9, of_decide_eq_true h10⟩
/-! cases -/
theorem num_cases {t : Th} {lo hi : Int} (h : numB t lo hi = true) : ∃ i, t = .int i ∧ lo ≤ i ∧ i < hi := by
  cases t with
  | int i =>
    have h : (decide (lo ≤ i) && decide (i < hi)) = true := h
    rw [Bool.and_eq_true] at h
    exact ⟨i, rfl, of_decide_eq_true h.1, of_decide_eq_true h.2⟩
  | _ => cases h
theorem of_cases {t : Th} {zs : List Str} (h : ofB t zs = true) : ∃ z, t = .str z ∧ z ∈ zs := by
  cases t with
  | str z =>
    have h : (nameB (.str z) && decide (z ∈ zs)) = true := h
    rw [Bool.and_eq_true] at h
    exact ⟨z, rfl, of_decide_eq_true h.2⟩
  | _ => cases h
theorem worth_cases {t : Th} {cs : List Str} (h : worthB t cs = true) : (∃ z i, t = .tup [.str z, .int i] ∧ z ∈ cs) ∨ ∃ i, t = .int i := by
  unfold worthB at h
  split at h
  · rw [Bool.and_eq_true] at h
    obtain ⟨z, rfl, hz⟩ := of_cases h.1
    obtain ⟨i, rfl, _⟩ := num_cases h.2
    exact .inl ⟨z, i, rfl, hz⟩
  · obtain ⟨i, rfl, _⟩ := num_cases h
    exact .inr ⟨i, rfl⟩
theorem test_cases {t : Th} {cs : List Str} (h : testB t cs = true) : ∃ z x c, t = .tup [.str z, .str x, c] ∧ z ∈ cs ∧ x ∈ testsL ∧ worthB c cs = true := by
  unfold testB at h
  split at h
  · rw [Bool.and_eq_true, Bool.and_eq_true] at h
    obtain ⟨z, rfl, hz⟩ := of_cases h.1
    exact ⟨z, _, _, rfl, hz, of_decide_eq_true h.2.1, h.2.2⟩
  · cases h
theorem setRow_cases {t : Th} {cs : List Str} (h : setRowB t cs = true) : ∃ z w, t = .tup [.str z, w] ∧ z ∈ cs ∧ worthB w cs = true := by
  unfold setRowB at h
  split at h
  · rw [Bool.and_eq_true] at h
    obtain ⟨z, rfl, hz⟩ := of_cases h.1
    exact ⟨z, _, rfl, hz, h.2⟩
  · cases h
theorem cell_cases {t : Th} (h : cellB t = true) : ∃ z n f, t = .tup [.str z, .int n, .int f] ∧ 1 ≤ n ∧ n < 10 ∧ 0 ≤ f ∧ f < n := by
  unfold cellB at h
  split at h
  · rw [Bool.and_eq_true, Bool.and_eq_true] at h
    obtain ⟨z, rfl⟩ := nameB_str h.1
    obtain ⟨n, e, n1, n2⟩ := num_cases h.2.1
    cases e
    obtain ⟨f, rfl, f1, f2⟩ := num_cases h.2.2
    exact ⟨z, _, f, rfl, n1, n2, f1, f2⟩
  · cases h
theorem command_cases {t : Th} {cs : List Str} (h : commandB t cs = true) : ∃ z ts ss, t = .tup [.str z, .tup ts, .tup ss] ∧ ts.length ≤ 4 ∧ ss.length ≤ 4 ∧ (∀ x ∈ ts, testB x cs = true) ∧ ∀ x ∈ ss, setRowB x cs = true := by
  unfold commandB at h
  split at h
  · simp only [Bool.and_eq_true, List.all_eq_true] at h
    obtain ⟨h1, h2, h3, h4, h5, _⟩ := h
    obtain ⟨z, rfl⟩ := nameB_str h1
    exact ⟨z, _, _, rfl, of_decide_eq_true h2, of_decide_eq_true h3, h4, h5⟩
  · cases h
theorem ask_cases {t : Th} {cs ms : List Str} {k : Bool} (h : askB t cs ms k = true) : (∃ x z, t = .tup [.str x, .str z] ∧ x ∈ asksL ∧ z ∈ ms ∧ (k = true ∨ x = Str.ofString "can")) ∨ testB t cs = true := by
  unfold askB at h
  split at h
  · rw [Bool.and_eq_true, Bool.and_eq_true, Bool.or_eq_true] at h
    obtain ⟨z, rfl, hz⟩ := of_cases h.2.1
    exact .inl ⟨_, z, rfl, of_decide_eq_true h.1, hz, h.2.2.imp id of_decide_eq_true⟩
  · cases h
  · exact .inr h
theorem askRow_cases {t : Th} {cs ms : List Str} {k : Bool} (h : askRowB t cs ms k = true) : ∃ as, t = .tup as ∧ as.length ≤ 4 ∧ ∀ x ∈ as, askB x cs ms k = true := by
  unfold askRowB at h
  split at h
  · rw [Bool.and_eq_true, List.all_eq_true] at h
    exact ⟨_, rfl, of_decide_eq_true h.1, h.2⟩
  · cases h
theorem mark_cases {t : Th} {cs ms : List Str} {k : Bool} (h : markB t cs ms k = true) : ∃ z rows, t = .tup [.str z, .tup rows] ∧ nameB (.str z) = true ∧ rows.length ≤ 4 ∧ ∀ x ∈ rows, askRowB x cs ms k = true := by
  unfold markB at h
  split at h
  · simp only [Bool.and_eq_true, List.all_eq_true] at h
    obtain ⟨h1, h2, h3⟩ := h
    obtain ⟨z, rfl⟩ := nameB_str h1
    exact ⟨z, _, rfl, h1, of_decide_eq_true h2, h3⟩
  · cases h
/-! rooms -/
structure RmOk (p : Pg) (r : Rm) : Prop where
  len : r.length = p.cs.length + if p.keeps = true then 1 else 0
  cells : ∀ (i : Nat) (t : Th), p.cs[i]? = some t → ∃ x : Int, r[i]? = some x ∧ 0 ≤ x ∧ x < szI t
  last : p.keeps = true → ∃ x : Int, r[p.cs.length]? = some x ∧ -1 ≤ x ∧ x < p.ms.length
theorem first_ok {p : Pg} (G : GoodPg p) : RmOk p (firstV p) := by
  unfold firstV
  refine ⟨?_, fun i t h => ?_, fun h => ?_⟩
  · rw [List.length_append, List.length_map]
    split <;> rfl
  · have hi := (List.getElem?_eq_some_iff.mp h).1
    obtain ⟨z, n, f, rfl, _, _, f1, f2⟩ := cell_cases (G.cells t (List.mem_of_getElem? h))
    refine ⟨f, ?_, f1, f2⟩
    rw [List.getElem?_append_left (by rw [List.length_map]; exact hi), List.getElem?_map, h]
    rfl
  · refine ⟨-1, ?_, by omega, by omega⟩
    rw [if_pos h, List.getElem?_append_right (by rw [List.length_map]; exact Nat.le_refl _), List.length_map, Nat.sub_self]
    rfl
theorem ns_len (p : Pg) : p.ns.length = p.cs.length := List.length_map _
/-- what a set leaves as it is -/
structure SetOk (p : Pg) (r f : Rm) : Prop where
  len : f.length = r.length
  cells : ∀ (i : Nat) (t : Th), p.cs[i]? = some t → ∃ x : Int, f[i]? = some x ∧ 0 ≤ x ∧ x < szI t
  rest : ∀ i : Nat, p.cs.length ≤ i → f[i]? = r[i]?
theorem set_ok {p : Pg} (G : GoodPg p) {r f : Rm} (S : SetOk p r f) {t : Th} (h : setRowB t p.ns = true) : SetOk p r (setV p r f t) := by
  obtain ⟨z, w, rfl, hz, _⟩ := setRow_cases h
  have hl := ix_lt hz
  rw [ns_len] at hl
  show SetOk p r (f.set (ixOf p.ns z) (worthV p.ns r w % szI (p.cs.getD (ixOf p.ns z) .non)))
  generalize ixOf p.ns z = j at hl
  refine ⟨by rw [List.length_set]; exact S.len, fun i t ht => ?_, fun i hi => ?_⟩
  · by_cases e : j = i
    · subst e
      obtain ⟨x, hx, _⟩ := S.cells j t ht
      have hj := (List.getElem?_eq_some_iff.mp hx).1
      obtain ⟨_, n, _, rfl, n1, _⟩ := cell_cases (G.cells t (List.mem_of_getElem? ht))
      refine ⟨_, List.getElem?_set_self hj, ?_, ?_⟩
      · rw [List.getD_eq_getElem?_getD, ht]
        exact Int.emod_nonneg _ (show n ≠ 0 by omega)
      · rw [List.getD_eq_getElem?_getD, ht]
        exact Int.emod_lt_of_pos _ (show 0 < n by omega)
    · rw [List.getElem?_set_ne e]
      exact S.cells i t ht
  · rw [List.getElem?_set_ne (by omega)]
    exact S.rest i hi
theorem sets_ok {p : Pg} (G : GoodPg p) {r : Rm} : ∀ (ss : List Th) (f : Rm), SetOk p r f → (∀ t ∈ ss, setRowB t p.ns = true) → SetOk p r (ss.foldl (setV p r) f)
  | [], _, S, _ => S
  | t :: ss, f, S, h => sets_ok G ss _ (set_ok G S (h t List.mem_cons_self)) fun x hx => h x (List.mem_cons_of_mem _ hx)
theorem RmOk.set {p : Pg} {r : Rm} (R : RmOk p r) : SetOk p r r := ⟨rfl, R.cells, fun _ _ => rfl⟩
theorem cmd_at {p : Pg} (G : GoodPg p) {k : Nat} (hk : k < p.ms.length) : ∃ z ts ss, p.ms[k]? = some (.tup [.str z, .tup ts, .tup ss]) ∧ p.ms.getD k .non = .tup [.str z, .tup ts, .tup ss] ∧ ts.length ≤ 4 ∧ ss.length ≤ 4 ∧ (∀ x ∈ ts, testB x p.ns = true) ∧ ∀ x ∈ ss, setRowB x p.ns = true := by
  have h : p.ms[k]? = some p.ms[k] := List.getElem?_eq_getElem hk
  obtain ⟨z, ts, ss, e, r⟩ := command_cases (G.cmds _ (List.mem_of_getElem? h))
  rw [e] at h
  exact ⟨z, ts, ss, h, by rw [List.getD_eq_getElem?_getD, h]; rfl, r⟩
theorem next_ok {p : Pg} (G : GoodPg p) {r : Rm} (R : RmOk p r) {k : Nat} (hk : k < p.ms.length) : RmOk p (nextV p k r) := by
  obtain ⟨z, ts, ss, _, e, _, _, _, hs⟩ := cmd_at G hk
  have S := sets_ok G ss r R.set hs
  have eS : setsV p k r = ss.foldl (setV p r) r := by
    unfold setsV
    rw [e]
    rfl
  unfold nextV
  rw [eS]
  generalize ss.foldl (setV p r) r = f at S
  split
  · rename_i hk2
    refine ⟨by rw [List.length_set, S.len]; exact R.len, fun i t ht => ?_, fun _ => ?_⟩
    · rw [List.getElem?_set_ne (by have := (List.getElem?_eq_some_iff.mp ht).1; omega)]
      exact S.cells i t ht
    · refine ⟨(k : Int), List.getElem?_set_self ?_, by omega, by omega⟩
      rw [S.len, R.len, if_pos hk2]
      omega
  · rename_i hk2
    exact ⟨by rw [S.len]; exact R.len, S.cells, fun h => absurd h hk2⟩
theorem succ_ok {p : Pg} (G : GoodPg p) {r : Rm} (R : RmOk p r) : ∀ x ∈ succV p r, RmOk p x := by
  intro x hx
  obtain ⟨k, hk, e⟩ := List.mem_filterMap.mp hx
  unfold succO at e
  split at e
  · cases e
    exact next_ok G R (List.mem_range.mp hk)
  · cases e
theorem rm_bound {p : Pg} (G : GoodPg p) {r : Rm} (R : RmOk p r) : ∀ x ∈ r, -1 ≤ x ∧ x < 9 := by
  intro x hx
  obtain ⟨i, hi⟩ := List.mem_iff_getElem?.mp hx
  have hl := (List.getElem?_eq_some_iff.mp hi).1
  have m8 := G.m8
  by_cases h : i < p.cs.length
  · have ht : p.cs[i]? = some p.cs[i] := List.getElem?_eq_getElem h
    obtain ⟨_, n, _, e, n1, n2, _⟩ := cell_cases (G.cells _ (List.mem_of_getElem? ht))
    obtain ⟨y, hy, y0, y1⟩ := R.cells i _ ht
    rw [hi] at hy
    cases hy
    rw [e] at y1
    have y1 : x < n := y1
    omega
  · have hlen := R.len
    by_cases hk : p.keeps = true
    · rw [if_pos hk] at hlen
      obtain rfl : i = p.cs.length := by omega
      obtain ⟨y, hy, y0, y1⟩ := R.last hk
      rw [hi] at hy
      cases hy
      omega
    · rw [if_neg hk] at hlen
      omega
/-! growing -/
section
variable {α : Type} [DecidableEq α]
def grow (l : List α) (x : α) : List α := if x ∈ l then l else l ++ [x]
def growAll (l rs : List α) : List α := rs.foldl grow l
theorem grow_app (l : List α) (x : α) : ∃ s, grow l x = l ++ s := by
  unfold grow
  split
  · exact ⟨[], (List.append_nil _).symm⟩
  · exact ⟨[x], rfl⟩
theorem growAll_app : ∀ (rs l : List α), ∃ s, growAll l rs = l ++ s
  | [], l => ⟨[], (List.append_nil _).symm⟩
  | x :: r, l => by
    obtain ⟨s, e⟩ := grow_app l x
    obtain ⟨s2, e2⟩ := growAll_app r (grow l x)
    exact ⟨s ++ s2, by
      show growAll (grow l x) r = _
      rw [e2, e, List.append_assoc]⟩
theorem grow_nodup {l : List α} {x : α} (h : l.Nodup) : (grow l x).Nodup := by
  unfold grow
  split
  · exact h
  · rename_i hx
    refine List.nodup_append.mpr ⟨h, List.pairwise_singleton _ _, fun a ha b hb e => hx ?_⟩
    rw [← List.mem_singleton.mp hb, ← e]
    exact ha
theorem growAll_nodup : ∀ (rs : List α) {l : List α}, l.Nodup → (growAll l rs).Nodup
  | [], _, h => h
  | x :: r, _, h => growAll_nodup r (grow_nodup (x := x) h)
theorem grow_mem {l : List α} {x y : α} : y ∈ grow l x ↔ y ∈ l ∨ y = x := by
  unfold grow
  split
  · rename_i h
    exact ⟨.inl, fun k => k.elim id fun e => e ▸ h⟩
  · rw [List.mem_append, List.mem_singleton]
theorem growAll_mem : ∀ (rs : List α) {l : List α} {y : α}, y ∈ growAll l rs ↔ y ∈ l ∨ y ∈ rs
  | [], l, y => ⟨.inl, fun k => k.elim id fun e => absurd e List.not_mem_nil⟩
  | x :: r, l, y => by
    rw [show growAll l (x :: r) = growAll (grow l x) r from rfl, growAll_mem r, grow_mem, List.mem_cons, or_assoc]
theorem growAll_snoc (l rs : List α) (x : α) : growAll l (rs ++ [x]) = grow (growAll l rs) x := by
  unfold growAll
  rw [List.foldl_append]
  rfl
theorem ix_app {l s : List α} {x : α} (h : x ∈ l) : ixOf (l ++ s) x = ixOf l x := by
  unfold ixOf
  rw [List.findIdx_append, if_pos (show l.findIdx (fun y => decide (y = x)) < l.length from ix_lt h)]
theorem ix_new {l : List α} {x : α} (h : x ∉ l) : ixOf (l ++ [x]) x = l.length := by
  unfold ixOf
  have hno : ¬ l.findIdx (fun y => decide (y = x)) < l.length := fun k => by
    obtain ⟨y, hy, e⟩ := List.findIdx_lt_length.mp k
    exact h (of_decide_eq_true e ▸ hy)
  rw [List.findIdx_append, if_neg hno, List.findIdx_cons, decide_eq_true rfl]
  simp
theorem ix_at {l : List α} (nd : l.Nodup) {i : Nat} {x : α} (h : l[i]? = some x) : ixOf l x = i := by
  have hx := List.mem_of_getElem? h
  have hi := (List.getElem?_eq_some_iff.mp h).1
  have h2 := ix_get hx
  have hj := ix_lt hx
  exact (List.getElem?_inj hj nd).mp (h2.trans h.symm)
theorem nodup_le : ∀ {l m : List α}, l.Nodup → (∀ x ∈ l, x ∈ m) → l.length ≤ m.length
  | [], _, _, _ => Nat.zero_le _
  | x :: r, m, h, hs => by
    obtain ⟨hx, hr⟩ := List.nodup_cons.mp h
    have hm := hs x List.mem_cons_self
    have ih := nodup_le (l := r) (m := m.erase x) hr fun y hy => (List.mem_erase_of_ne (fun e : y = x => hx (by rw [← e]; exact hy))).mpr (hs y (List.mem_cons_of_mem _ hy))
    rw [List.length_erase_of_mem hm] at ih
    have := List.length_pos_of_mem hm
    rw [List.length_cons]
    omega
end
def roomsN (p : Pg) : Nat → List Rm
  | 0 => [firstV p]
  | k + 1 => match (roomsN p k)[k]? with
    | some r => growAll (roomsN p k) (succV p r)
    | none => roomsN p k
theorem rooms_at {p : Pg} {k : Nat} {r : Rm} (h : (roomsN p k)[k]? = some r) : roomsN p (k + 1) = growAll (roomsN p k) (succV p r) := by
  show (match (roomsN p k)[k]? with | some r => growAll (roomsN p k) (succV p r) | none => roomsN p k) = _
  rw [h]
theorem rooms_no {p : Pg} {k : Nat} (h : (roomsN p k)[k]? = none) : roomsN p (k + 1) = roomsN p k := by
  show (match (roomsN p k)[k]? with | some r => growAll (roomsN p k) (succV p r) | none => roomsN p k) = _
  rw [h]
theorem rooms_nodup (p : Pg) : ∀ k, (roomsN p k).Nodup
  | 0 => List.pairwise_singleton _ _
  | k + 1 => by
    cases h : (roomsN p k)[k]? with
    | none =>
      rw [rooms_no h]
      exact rooms_nodup p k
    | some r =>
      rw [rooms_at h]
      exact growAll_nodup _ (rooms_nodup p k)
theorem rooms_step (p : Pg) (k : Nat) : ∃ s, roomsN p (k + 1) = roomsN p k ++ s := by
  cases h : (roomsN p k)[k]? with
  | none => exact ⟨[], by rw [rooms_no h, List.append_nil]⟩
  | some r =>
    rw [rooms_at h]
    exact growAll_app _ _
theorem rooms_app (p : Pg) (k : Nat) : ∀ j, ∃ s, roomsN p (k + j) = roomsN p k ++ s
  | 0 => ⟨[], (List.append_nil _).symm⟩
  | j + 1 => by
    obtain ⟨s, e⟩ := rooms_app p k j
    obtain ⟨s2, e2⟩ := rooms_step p (k + j)
    refine ⟨s ++ s2, ?_⟩
    show roomsN p (k + j + 1) = _
    rw [e2, e, List.append_assoc]
theorem rooms_le (p : Pg) {k n : Nat} (h : k ≤ n) : ∃ s, roomsN p n = roomsN p k ++ s := by
  obtain ⟨s, e⟩ := rooms_app p k (n - k)
  rw [show k + (n - k) = n by omega] at e
  exact ⟨s, e⟩
theorem rooms_pos (p : Pg) (k : Nat) : 1 ≤ (roomsN p k).length := by
  obtain ⟨s, e⟩ := rooms_le p (Nat.zero_le k)
  rw [e, List.length_append]
  show 1 ≤ 1 + s.length
  omega
theorem rooms_ok {p : Pg} (G : GoodPg p) : ∀ k, ∀ r ∈ roomsN p k, RmOk p r
  | 0 => fun r hr => by
    rw [List.mem_singleton.mp hr]
    exact first_ok G
  | k + 1 => fun r hr => by
    cases h : (roomsN p k)[k]? with
    | none =>
      rw [rooms_no h] at hr
      exact rooms_ok G k r hr
    | some x =>
      rw [rooms_at h] at hr
      rcases (growAll_mem _).mp hr with hr | hr
      · exact rooms_ok G k r hr
      · exact succ_ok G (rooms_ok G k x (List.mem_of_getElem? h)) r hr
/-- all rooms that may be -/
def boxR : List Th → List Rm
  | [] => [[]]
  | t :: r => (List.range (szI t).toNat).flatMap fun (x : Nat) => (boxR r).map fun b => ((x : Nat) : Int) :: b
def allR (p : Pg) : List Rm := if p.keeps = true then (boxR p.cs).flatMap fun b => (List.range (p.ms.length + 1)).map fun (j : Nat) => b ++ [((j : Nat) : Int) - 1] else boxR p.cs
theorem flat_len {α β : Type} {f : α → List β} {n : Nat} : ∀ {l : List α}, (∀ x ∈ l, (f x).length = n) → (l.flatMap f).length = l.length * n
  | [], _ => (Nat.zero_mul _).symm
  | x :: r, h => by
    rw [List.flatMap_cons, List.length_append, h x List.mem_cons_self, flat_len fun y hy => h y (List.mem_cons_of_mem _ hy), List.length_cons, Nat.succ_mul, Nat.add_comm]
theorem box_len : ∀ cs : List Th, (∀ t ∈ cs, cellB t = true) → ((boxR cs).length : Int) = prodI cs
  | [], _ => rfl
  | t :: r, h => by
    obtain ⟨_, n, _, e, n1, _⟩ := cell_cases (h t List.mem_cons_self)
    have ih := box_len r fun x hx => h x (List.mem_cons_of_mem _ hx)
    show (((List.range (szI t).toNat).flatMap fun (x : Nat) => (boxR r).map fun b => ((x : Nat) : Int) :: b).length : Int) = szI t * prodI r
    rw [flat_len (n := (boxR r).length) fun x _ => List.length_map _, List.length_range, ← ih, Int.natCast_mul, e]
    show ((n.toNat : Nat) : Int) * _ = n * _
    rw [show ((n.toNat : Nat) : Int) = n by omega]
theorem all_len {p : Pg} (G : GoodPg p) : ((allR p).length : Int) = prodI p.cs * if p.keeps = true then (p.ms.length : Int) + 1 else 1 := by
  unfold allR
  split
  · rw [flat_len (n := p.ms.length + 1) fun x _ => by rw [List.length_map, List.length_range], Int.natCast_mul, box_len _ G.cells]
    rfl
  · rw [box_len _ G.cells, Int.mul_one]
theorem box_mem : ∀ {cs : List Th} {r : Rm}, r.length = cs.length → (∀ (i : Nat) (t : Th), cs[i]? = some t → ∃ x : Int, r[i]? = some x ∧ 0 ≤ x ∧ x < szI t) → r ∈ boxR cs
  | [], r, h, _ => by
    rw [List.length_eq_zero_iff.mp h]
    exact List.mem_singleton.mpr rfl
  | t :: cs, [], h, _ => by cases h
  | t :: cs, x :: r, h, hc => by
    obtain ⟨y, hy, y0, y1⟩ := hc 0 t rfl
    cases hy
    refine List.mem_flatMap.mpr ⟨x.toNat, List.mem_range.mpr (by omega), List.mem_map.mpr ⟨r, box_mem (by simpa using h) fun i u hu => ?_, ?_⟩⟩
    · exact hc (i + 1) u hu
    · rw [show ((x.toNat : Nat) : Int) = x by omega]
theorem all_mem {p : Pg} {r : Rm} (R : RmOk p r) : r ∈ allR p := by
  unfold allR
  have hl := R.len
  split
  · rename_i hk
    rw [if_pos hk] at hl
    obtain ⟨x, hx, x0, x1⟩ := R.last hk
    have e : r = r.take p.cs.length ++ [x] := by
      have h1 := List.take_append_drop p.cs.length r
      have hlt : p.cs.length < r.length := by omega
      rw [List.drop_eq_getElem_cons hlt, List.drop_of_length_le (by omega)] at h1
      rw [List.getElem?_eq_getElem hlt] at hx
      rw [Option.some.inj hx] at h1
      exact h1.symm
    refine List.mem_flatMap.mpr ⟨r.take p.cs.length, box_mem (by rw [List.length_take]; omega) fun i t ht => ?_, List.mem_map.mpr ⟨(x + 1).toNat, List.mem_range.mpr (by omega), ?_⟩⟩
    · have hi := (List.getElem?_eq_some_iff.mp ht).1
      rw [List.getElem?_take_of_lt hi]
      exact R.cells i t ht
    · rw [show (((x + 1).toNat : Nat) : Int) - 1 = x by omega]
      exact e.symm
  · rename_i hk
    rw [if_neg hk] at hl
    exact box_mem hl R.cells
/-- no more rooms than may be -/
theorem rooms_few {p : Pg} (G : GoodPg p) (k : Nat) : ((roomsN p k).length : Int) ≤ prodI p.cs * if p.keeps = true then (p.ms.length : Int) + 1 else 1 := by
  rw [← all_len G]
  have := nodup_le (rooms_nodup p k) fun r hr => all_mem (rooms_ok G k r hr)
  omega
/-- all that come from the first ones have come -/
theorem rooms_all {p : Pg} {n j : Nat} {r x : Rm} (hj : j < n) (h : (roomsN p n)[j]? = some r) (hn : n ≤ (roomsN p n).length) (hx : x ∈ succV p r) : x ∈ roomsN p n := by
  obtain ⟨s, e⟩ := rooms_le p (show j ≤ n by omega)
  obtain ⟨s2, e2⟩ := rooms_le p (show j + 1 ≤ n by omega)
  cases h2 : (roomsN p j)[j]? with
  | some y =>
    have : y = r := by
      rw [e, List.getElem?_append_left (List.getElem?_eq_some_iff.mp h2).1, h2] at h
      exact Option.some.inj h
    subst this
    rw [e2, rooms_at h2]
    exact List.mem_append_left _ ((growAll_mem _).mpr (.inr hx))
  | none =>
    exfalso
    have hlen : (roomsN p j).length ≤ j := List.getElem?_eq_none_iff.mp h2
    have st : ∀ i, (roomsN p (j + i)) = roomsN p j := by
      intro i
      induction i with
      | zero => rfl
      | succ i ih =>
        show roomsN p (j + i + 1) = _
        rw [rooms_no (by rw [ih]; exact List.getElem?_eq_none (by omega)), ih]
    have := st (n - j)
    rw [show j + (n - j) = n by omega] at this
    rw [this] at hn
    omega

/-! ### fairtrees.layouts and the law's own rooms: worths, tests -/
abbrev sworth_of : Stmt := topS 5
theorem scworth_of : FnScope ["worth", "names", "room"] ["worth", "names", "room"] (defScope sworth_of) := ⟨rfl, rfl, rfl, by decide +kernel, rfl, by decide +kernel, by decide +kernel⟩
abbrev stest_holds : Stmt := topS 6
theorem sctest_holds : FnScope ["test", "names", "room", "name", "sign", "worth", "held", "due"] ["test", "names", "room"] (defScope stest_holds) := ⟨rfl, rfl, rfl, by decide +kernel, rfl, by decide +kernel, by decide +kernel⟩
abbrev scan_come : Stmt := topS 7
theorem sccan_come : FnScope ["command", "names", "room", "test"] ["command", "names", "room"] (defScope scan_come) := ⟨rfl, rfl, rfl, by decide +kernel, rfl, by decide +kernel, by decide +kernel⟩
abbrev s_law_comes_to : Stmt := topS 33
theorem sc_law_comes_to : FnScope ["_law_worth_here", "_law_names_here", "_law_room"] ["_law_worth_here", "_law_names_here", "_law_room"] (defScope s_law_comes_to) := ⟨rfl, rfl, rfl, by decide +kernel, rfl, by decide +kernel, by decide +kernel⟩
abbrev s_law_all_hold : Stmt := topS 34
theorem sc_law_all_hold : FnScope ["_law_tests", "_law_names_here", "_law_room", "_law_name_here", "_law_sign", "_law_worth_here", "_law_held", "_law_due"] ["_law_tests", "_law_names_here", "_law_room"] (defScope s_law_all_hold) := ⟨rfl, rfl, rfl, by decide +kernel, rfl, by decide +kernel, by decide +kernel⟩
abbrev s_law_names_of : Stmt := topS 35
theorem sc_law_names_of : FnScope ["_law_rows", "_law_row"] ["_law_rows"] (defScope s_law_names_of) := ⟨rfl, rfl, rfl, by decide +kernel, rfl, by decide +kernel, by decide +kernel⟩
section
variable {P : Program} {w : World} {K : PySem.W.Frag} {mg : Str → Option Value} {base : Heap}
theorem tupL {N : Nat} {H : Hp} {v : V} {ts : List Th} (x : TAt N K H v (.tup ts)) : ∃ a xs, v = .ref a ∧ SqT K H a xs ∧ xs.length ≤ N ∧ TAll N K H xs ts := by
  cases x with
  | tup h l t => exact ⟨_, _, rfl, h, l, t⟩
theorem tup2 {N : Nat} {H : Hp} {v : V} {t0 t1 : Th} (x : TAt N K H v (.tup [t0, t1])) : ∃ a x0 x1, v = .ref a ∧ SqT K H a [x0, x1] ∧ TAt N K H x0 t0 ∧ TAt N K H x1 t1 := by
  obtain ⟨a, xs, e, h, _, t⟩ := tupL x
  cases t with
  | cons y0 r => cases r with
    | cons y1 r =>
      cases r
      exact ⟨a, _, _, e, h, y0, y1⟩
theorem tup3 {N : Nat} {H : Hp} {v : V} {t0 t1 t2 : Th} (x : TAt N K H v (.tup [t0, t1, t2])) : ∃ a x0 x1 x2, v = .ref a ∧ SqT K H a [x0, x1, x2] ∧ TAt N K H x0 t0 ∧ TAt N K H x1 t1 ∧ TAt N K H x2 t2 := by
  obtain ⟨a, xs, e, h, _, t⟩ := tupL x
  cases t with
  | cons y0 r => cases r with
    | cons y1 r => cases r with
      | cons y2 r =>
        cases r
        exact ⟨a, _, _, _, e, h, y0, y1, y2⟩
theorem tup4 {N : Nat} {H : Hp} {v : V} {t0 t1 t2 t3 : Th} (x : TAt N K H v (.tup [t0, t1, t2, t3])) : ∃ a x0 x1 x2 x3, v = .ref a ∧ SqT K H a [x0, x1, x2, x3] ∧ TAt N K H x0 t0 ∧ TAt N K H x1 t1 ∧ TAt N K H x2 t2 ∧ TAt N K H x3 t3 := by
  obtain ⟨a, xs, e, h, _, t⟩ := tupL x
  cases t with
  | cons y0 r => cases r with
    | cons y1 r => cases r with
      | cons y2 r => cases r with
        | cons y3 r =>
          cases r
          exact ⟨a, _, _, _, _, e, h, y0, y1, y2, y3⟩
theorem ix_str {ns : List Str} {z : Str} (h : z ∈ ns) : (ns.map V.str)[ixOf ns z]? = some (.str z) ∧ ∀ (m : Nat) (z' : V), m < ixOf ns z → (ns.map V.str)[m]? = some z' → eqV z' (.str z) = false := by
  refine ⟨get_map (ix_get h), fun m z' hm hz => ?_⟩
  obtain ⟨u, hu, rfl⟩ := map_get hz
  exact beq_eq_false_iff_ne.mpr (ix_before hm hu)
theorem room_get {ns : List Str} {z : Str} {r : Rm} (h : z ∈ ns) (hl : ns.length ≤ r.length) : atI (r.map V.int) ((ixOf ns z : Nat) : Int) = some (.int (r.getD (ixOf ns z) 0)) := by
  have hi := ix_lt h
  refine atI_nat (get_map ?_)
  rw [List.getD_eq_getElem?_getD, List.getElem?_eq_getElem (show ixOf ns z < r.length by omega)]
  rfl
def spWV (K : PySem.W.Frag) : Sp := fun vs H Q _ => ∃ (v : V) (t : Th) (l r : Addr) (ns : List Str) (room : Rm), vs = [v, .ref l, .ref r] ∧ TAt 10 K H v t ∧ worthB t ns = true ∧ SqL K H l (ns.map V.str) ∧ SqT K H r (room.map V.int) ∧ ns.length ≤ room.length ∧ Q (.int (worthV ns room t)) H
theorem ok_wv {f : Addr} {fd : FuncData} (F : Fun K "worth_of" "worth_of" sworth_of f fd) (T : Bi mg) : FnOk P w K mg base CX0 1 f fd ["worth", "names", "room"] (spWV K) := by
  refine F.ok scworth_of (fun vs H Q E h => ?_) (fun cdv A outer s H vs Q E hr h => ?_)
  · obtain ⟨v, t, l, r, ns, room, rfl, _⟩ := h
    rfl
  · obtain ⟨v, t, l, r, ns, room, rfl, x, hw, hl, hr2, hlen, q⟩ := h
    refine ⟨_, (pss_cons (ps_if (pt_val (pe_callB call_isT (by rfl) T.isinstance (by decide +kernel) (pa_cons (pv 0) (pa_cons (pe_bltn (v := .ty "tuple") (u := .type "tuple") (by rfl) T.tuple (by decide +kernel) rfl) pa_nil))))
        (pss_one (ps_ret (pe_op op_add (pe_ix ix_tup (pv 2) (pe_bm PySem.F.plainAttrs_list PySem.F.slot_list_index PySem.F.type_list_index mt_index (pv 1) (pa_cons (pe_ix ix_tup (pv 0) pe_int (fun _ _ => rfl)) pa_nil)) (fun _ _ => rfl)) (pe_ix ix_tup (pv 0) pe_int (fun _ _ => rfl)))))
        pss_nil)
      (pss_one (ps_ret (pv 0)))), ?_⟩
    refine ⟨_, rfl, v, t, 10, "tuple", rfl, x, by simp [tyL], _, rfl, ?_⟩
    rcases worth_cases hw with ⟨z, i, rfl, hz⟩ | ⟨i, rfl⟩
    · obtain ⟨a, x0, x1, rfl, ha, y0, y1⟩ := tup2 x
      cases y0
      cases y1
      obtain ⟨g1, g2⟩ := ix_str hz
      refine iteT ⟨_, rfl, _, rfl, .inl ⟨rfl, _, hl⟩, _, rfl, a, _, 0, _, rfl, rfl, ha, at_of (j := 0) rfl rfl, l, _, _, _, _, rfl, rfl, hl, rfl, flat_str _, g1, beq_self_eq_true _, g2, r, _, _, _, rfl, rfl, hr2, room_get hz hlen, _, rfl, a, _, 1, _, rfl, rfl, ha, at_of (j := 1) rfl rfl, _, _, rfl, rfl, q⟩
    · cases x
      exact iteF ⟨_, rfl, q⟩
theorem ok_lwv {f : Addr} {fd : FuncData} (F : Fun K "_law_comes_to" "_law_comes_to" s_law_comes_to f fd) (T : Bi mg) : FnOk P w K mg base CX0 1 f fd ["_law_worth_here", "_law_names_here", "_law_room"] (spWV K) := by
  refine F.ok sc_law_comes_to (fun vs H Q E h => ?_) (fun cdv A outer s H vs Q E hr h => ?_)
  · obtain ⟨v, t, l, r, ns, room, rfl, _⟩ := h
    rfl
  · obtain ⟨v, t, l, r, ns, room, rfl, x, hw, hl, hr2, hlen, q⟩ := h
    refine ⟨_, (pss_cons (ps_if (pt_val (pe_callB call_isT (by rfl) T.isinstance (by decide +kernel) (pa_cons (pv 0) (pa_cons (pe_bltn (v := .ty "tuple") (u := .type "tuple") (by rfl) T.tuple (by decide +kernel) rfl) pa_nil))))
        (pss_one (ps_ret (pe_op op_add (pe_ix ix_tup (pv 2) (pe_bm PySem.F.plainAttrs_list PySem.F.slot_list_index PySem.F.type_list_index mt_index (pv 1) (pa_cons (pe_ix ix_tup (pv 0) pe_int (fun _ _ => rfl)) pa_nil)) (fun _ _ => rfl)) (pe_ix ix_tup (pv 0) pe_int (fun _ _ => rfl)))))
        pss_nil)
      (pss_one (ps_ret (pv 0)))), ?_⟩
    refine ⟨_, rfl, v, t, 10, "tuple", rfl, x, by simp [tyL], _, rfl, ?_⟩
    rcases worth_cases hw with ⟨z, i, rfl, hz⟩ | ⟨i, rfl⟩
    · obtain ⟨a, x0, x1, rfl, ha, y0, y1⟩ := tup2 x
      cases y0
      cases y1
      obtain ⟨g1, g2⟩ := ix_str hz
      refine iteT ⟨_, rfl, _, rfl, .inl ⟨rfl, _, hl⟩, _, rfl, a, _, 0, _, rfl, rfl, ha, at_of (j := 0) rfl rfl, l, _, _, _, _, rfl, rfl, hl, rfl, flat_str _, g1, beq_self_eq_true _, g2, r, _, _, _, rfl, rfl, hr2, room_get hz hlen, _, rfl, a, _, 1, _, rfl, rfl, ha, at_of (j := 1) rfl rfl, _, _, rfl, rfl, q⟩
    · cases x
      exact iteF ⟨_, rfl, q⟩
def spTV (K : PySem.W.Frag) : Sp := fun vs H Q _ => ∃ (v : V) (t : Th) (l r : Addr) (ns : List Str) (room : Rm), vs = [v, .ref l, .ref r] ∧ TAt 10 K H v t ∧ testB t ns = true ∧ SqL K H l (ns.map V.str) ∧ SqT K H r (room.map V.int) ∧ ns.length ≤ room.length ∧ Q (.bl (testV ns room t)) H
theorem ok_tv {f : Addr} {fd : FuncData} (F : Fun K "test_holds" "test_holds" stest_holds f fd) (T : Bi mg) (cworth_of : Cal P w K mg base 1 "worth_of" ["worth", "names", "room"] (spWV K)) : FnOk P w K mg base CX0 2 f fd ["test", "names", "room"] (spTV K) := by
  refine F.ok sctest_holds (fun vs H Q E h => ?_) (fun cdv A outer s H vs Q E hr h => ?_)
  · obtain ⟨v, t, l, r, ns, room, rfl, _⟩ := h
    rfl
  · obtain ⟨v, t, l, r, ns, room, rfl, x, hw, hl, hr2, hlen, q⟩ := h
    refine ⟨_, (pss_cons (ps_asg (pv 0) (pg_tup rfl (pgs_cons (pg_name (i := 3) sctest_holds.nd rfl (.inl rfl)) (pgs_cons (pg_name (i := 4) sctest_holds.nd rfl (.inl rfl)) (pgs_cons (pg_name (i := 5) sctest_holds.nd rfl (.inl rfl)) pgs_nil)))))
      (pss_cons (ps_set (i := 6) sctest_holds.nd rfl (.inl rfl) (pe_ix ix_tup (pv 2) (pe_bm PySem.F.plainAttrs_list PySem.F.slot_list_index PySem.F.type_list_index mt_index (pv 1) (pa_cons (pv 3) pa_nil)) (fun _ _ => rfl)))
      (pss_cons (ps_set (i := 7) sctest_holds.nd rfl (.inl rfl) (pe_call cworth_of.G hr (by rfl) cworth_of.g cworth_of.kp cworth_of.b .nil pass0 (pa_cons (pv 5) (pa_cons (pv 1) (pa_cons (pv 2) pa_nil)))))
      (pss_cons (ps_if (pt_cmpR op_eq (pv 4) pe_str (nomark _))
        (pss_one (ps_ret (pe_cmpR op_eq (pv 6) (pv 7) (nomark _))))
        pss_nil)
      (pss_cons (ps_if (pt_cmpR op_eq (pv 4) pe_str (nomark _))
        (pss_one (ps_ret (pe_cmpR op_ne (pv 6) (pv 7) (nomark _))))
        pss_nil)
      (pss_one (ps_ret (pe_cmpR op_lt (pv 6) (pv 7) (nomark _))))))))), ?_⟩
    obtain ⟨z, sg, c, rfl, hz, hs, hc⟩ := test_cases hw
    obtain ⟨a, x0, x1, x2, rfl, ha, y0, y1, y2⟩ := tup3 x
    cases y0
    cases y1
    obtain ⟨g1, g2⟩ := ix_str hz
    refine ⟨_, rfl, a, _, rfl, ha, rfl, _, _, rfl, _, _, rfl, _, _, rfl, rfl, ?_⟩
    refine ⟨_, rfl, _, rfl, .inl ⟨rfl, _, hl⟩, _, rfl, l, _, _, _, _, rfl, rfl, hl, rfl, flat_str _, g1, beq_self_eq_true _, g2, r, _, _, _, rfl, rfl, hr2, room_get hz hlen, ?_⟩
    refine ⟨_, rfl, _, rfl, _, rfl, x2, c, l, r, ns, room, rfl, y2, hc, hl, hr2, hlen, ?_⟩
    have q : Q (.bl (signV sg (room.getD (ixOf ns z) 0) (worthV ns room c))) H := q
    generalize room.getD (ixOf ns z) 0 = h at q
    generalize worthV ns room c = d at q
    unfold signV at q
    refine ⟨_, rfl, rfl, _, rfl, ?_⟩
    rw [dec_str]
    by_cases e1 : sg = isS
    · rw [if_pos e1] at q
      rw [decide_eq_true (show sg = Str.ofString "is" from e1)]
      refine iteT ⟨_, rfl, _, rfl, rfl, ?_⟩
      rw [dec_int]
      exact q
    · rw [if_neg e1] at q
      rw [decide_eq_false (show sg ≠ Str.ofString "is" from e1)]
      refine iteF ⟨_, rfl, rfl, _, rfl, ?_⟩
      rw [dec_str]
      by_cases e2 : sg = notS
      · rw [if_pos e2] at q
        rw [decide_eq_true (show sg = Str.ofString "not" from e2)]
        refine iteT ⟨_, rfl, _, rfl, rfl, ?_⟩
        rw [dec_int]
        exact q
      · rw [if_neg e2] at q
        rw [decide_eq_false (show sg ≠ Str.ofString "not" from e2)]
        exact iteF ⟨_, rfl, _, rfl, _, _, rfl, rfl, q⟩
/-- tests of a command, as the law asks of them -/
def spAH (K : PySem.W.Frag) : Sp := fun vs H Q _ => ∃ (b l r : Addr) (xs : List V) (ts : List Th) (ns : List Str) (room : Rm), vs = [.ref b, .ref l, .ref r] ∧ (SqT K H b xs ∨ SqL K H b xs) ∧ TAll 10 K H xs ts ∧ (∀ t ∈ ts, testB t ns = true) ∧ SqL K H l (ns.map V.str) ∧ SqT K H r (room.map V.int) ∧ ns.length ≤ room.length ∧ Q (.bl (ts.all (testV ns room))) H
theorem ok_ah {f : Addr} {fd : FuncData} (F : Fun K "_law_all_hold" "_law_all_hold" s_law_all_hold f fd) (T : Bi mg) (c_law_comes_to : Cal P w K mg base 1 "_law_comes_to" ["_law_worth_here", "_law_names_here", "_law_room"] (spWV K)) : FnOk P w K mg base CX0 2 f fd ["_law_tests", "_law_names_here", "_law_room"] (spAH K) := by
  refine F.ok sc_law_all_hold (fun vs H Q E h => ?_) (fun cdv A outer s H vs Q E hr h => ?_)
  · obtain ⟨b, l, r, xs, ts, ns, room, rfl, _⟩ := h
    rfl
  · obtain ⟨b, l, r, xs, ts, ns, room, rfl, hb, all, hw, hl, hr2, hlen, q⟩ := h
    refine ⟨_, (pss_cons (ps_for PassesOwn.never rfl (SQX.pi_seq (pv 0)) (pg_tup rfl (pgs_cons (pg_name (i := 3) sc_law_all_hold.nd rfl (.inl rfl)) (pgs_cons (pg_name (i := 4) sc_law_all_hold.nd rfl (.inl rfl)) (pgs_cons (pg_name (i := 5) sc_law_all_hold.nd rfl (.inl rfl)) pgs_nil))))
        (pss_cons (ps_set (i := 6) sc_law_all_hold.nd rfl (.inl rfl) (pe_ix ix_tup (pv 2) (pe_bm PySem.F.plainAttrs_list PySem.F.slot_list_index PySem.F.type_list_index mt_index (pv 1) (pa_cons (pv 3) pa_nil)) (fun _ _ => rfl)))
        (pss_cons (ps_set (i := 7) sc_law_all_hold.nd rfl (.inl rfl) (pe_call c_law_comes_to.G hr (by rfl) c_law_comes_to.g c_law_comes_to.kp c_law_comes_to.b .nil pass0 (pa_cons (pv 5) (pa_cons (pv 1) (pa_cons (pv 2) pa_nil)))))
        (pss_one (ps_if (PW.pt (pw_or (PW.pt (pw_and (pt_cmpR op_eq (pv 4) pe_str (nomark _)) (pw_and1 (pt_cmpR op_ne (pv 6) (pv 7) (nomark _))))) (pw_or (PW.pt (pw_and (pt_cmpR op_eq (pv 4) pe_str (nomark _)) (pw_and1 (pt_cmpR op_eq (pv 6) (pv 7) (nomark _))))) (pw_or1 (PW.pt (pw_and (pt_cmpR op_eq (pv 4) pe_str (nomark _)) (pw_and1 (pt_cmpR op_ge (pv 6) (pv 7) (nomark _)))))))))
          (pss_one (ps_ret pe_bl))
          pss_nil)))))
      (pss_one (ps_ret pe_bl))), ?_⟩
    rcases hb with hb | hb
    · refine .inl ⟨_, rfl, b, rfl, ⟨_, hb⟩, for_tup (K := K) (a := b) (xs := xs) (fun i σ H' => ∃ y3 y4 y5 y6 y7, σ = [some (.ref b), some (.ref l), some (.ref r), y3, y4, y5, y6, y7] ∧ H' = H ∧ ts.all (testV ns room) = (ts.drop i).all (testV ns room)) ⟨_, _, _, _, _, rfl, rfl, rfl⟩ (fun i σ H' _ ⟨_, _, _, _, _, _, e, _⟩ => by rw [e]; exact hb) ?_ ?_⟩
      · rintro i v σ H1 hi ⟨y3, y4, y5, y6, y7, rfl, rfl, e⟩
        obtain ⟨t, ht, x⟩ := all.get hi
        obtain ⟨hil, et⟩ := List.getElem?_eq_some_iff.mp ht
        rw [List.drop_eq_getElem_cons hil, et, List.all_cons] at e
        obtain ⟨z, sg, c, rfl, hz, hs, hc⟩ := test_cases (hw t (List.mem_of_getElem? ht))
        obtain ⟨a, x0, x1, x2, rfl, ha, z0, z1, z2⟩ := tup3 x
        cases z0
        cases z1
        obtain ⟨g1, g2⟩ := ix_str hz
        refine ⟨a, _, rfl, ha, rfl, _, _, rfl, _, _, rfl, _, _, rfl, rfl, ?_⟩
        refine ⟨_, rfl, _, rfl, .inl ⟨rfl, _, hl⟩, _, rfl, l, _, _, _, _, rfl, rfl, hl, rfl, flat_str _, g1, beq_self_eq_true _, g2, r, _, _, _, rfl, rfl, hr2, room_get hz hlen, ?_⟩
        refine ⟨_, rfl, _, rfl, _, rfl, x2, c, l, r, ns, room, rfl, z2, hc, hl, hr2, hlen, ?_⟩
        have e : ts.all (testV ns room) = (signV sg (room.getD (ixOf ns z) 0) (worthV ns room c) && (ts.drop (i + 1)).all (testV ns room)) := e
        generalize room.getD (ixOf ns z) 0 = h at e
        generalize worthV ns room c = d at e
        unfold signV at e
        have e3 : Str.ofString "under" = sg ∨ sg = isS ∨ sg = notS := by
          simp only [testsL, List.mem_cons, List.not_mem_nil, or_false] at hs
          rcases hs with h | h | h
          · exact .inr (.inl h)
          · exact .inr (.inr h)
          · exact .inl h.symm
        have no : ∀ {x y : Str}, sg = x → x ≠ y → sg ≠ y := fun h1 h2 h3 => h2 (h1.symm.trans h3)
        have d1 : isS ≠ notS := by decide +kernel
        have d2 : isS ≠ Str.ofString "under" := by decide +kernel
        have d3 : notS ≠ Str.ofString "under" := by decide +kernel
        have d4 : Str.ofString "under" ≠ isS := by decide +kernel
        have d5 : Str.ofString "under" ≠ notS := by decide +kernel
        refine ⟨_, rfl, rfl, _, rfl, ?_⟩
        rw [dec_str]
        by_cases e1 : sg = isS
        · rw [if_pos e1] at e
          rw [decide_eq_true (show sg = Str.ofString "is" from e1)]
          refine iteT ⟨_, rfl, _, rfl, rfl, _, rfl, ?_⟩
          rw [dec_int]
          by_cases hd : h = d
          · rw [decide_eq_true hd, Bool.true_and] at e
            rw [decide_eq_true hd]
            refine iteF ⟨_, rfl, rfl, _, rfl, ?_⟩
            rw [dec_str, decide_eq_false (show sg ≠ Str.ofString "not" from no e1 d1)]
            refine iteF (iteF ⟨_, rfl, rfl, _, rfl, ?_⟩)
            rw [dec_str, decide_eq_false (no e1 d2)]
            exact iteF (iteF ⟨_, _, _, _, _, rfl, rfl, e⟩)
          · rw [decide_eq_false hd, Bool.false_and] at e
            rw [decide_eq_false hd]
            rw [e] at q
            exact iteT q
        · rw [if_neg e1] at e
          rw [decide_eq_false (show sg ≠ Str.ofString "is" from e1)]
          refine iteF (iteF ⟨_, rfl, rfl, _, rfl, ?_⟩)
          rw [dec_str]
          by_cases e2 : sg = notS
          · rw [if_pos e2] at e
            rw [decide_eq_true (show sg = Str.ofString "not" from e2)]
            refine iteT ⟨_, rfl, _, rfl, rfl, _, rfl, ?_⟩
            rw [dec_int]
            by_cases hd : h = d
            · rw [decide_eq_true hd] at e
              have e : ts.all (testV ns room) = false := e
              rw [decide_eq_true hd]
              rw [e] at q
              exact iteT q
            · rw [decide_eq_false hd] at e
              have e : ts.all (testV ns room) = (ts.drop (i + 1)).all (testV ns room) := e
              rw [decide_eq_false hd]
              refine iteF ⟨_, rfl, rfl, _, rfl, ?_⟩
              rw [dec_str, decide_eq_false (no e2 d3)]
              exact iteF (iteF ⟨_, _, _, _, _, rfl, rfl, e⟩)
          · rw [if_neg e2] at e
            rw [decide_eq_false (show sg ≠ Str.ofString "not" from e2)]
            have e4 : sg = Str.ofString "under" := by
              rcases e3 with k | k | k
              · exact k.symm
              · exact absurd k e1
              · exact absurd k e2
            refine iteF (iteF ⟨_, rfl, rfl, _, rfl, ?_⟩)
            rw [dec_str, decide_eq_true e4]
            refine iteT ⟨_, rfl, _, rfl, _, _, rfl, rfl, _, rfl, ?_⟩
            by_cases hd : h < d
            · rw [decide_eq_true hd, Bool.true_and] at e
              rw [decide_eq_false (show ¬ d ≤ h by omega)]
              exact iteF ⟨_, _, _, _, _, rfl, rfl, e⟩
            · rw [decide_eq_false hd, Bool.false_and] at e
              rw [decide_eq_true (show d ≤ h by omega)]
              rw [e] at q
              exact iteT q
      · rintro σ H1 ⟨y3, y4, y5, y6, y7, rfl, rfl, e⟩
        rw [all.len, List.drop_length] at e
        rw [e] at q
        exact q
    · refine .inr ⟨_, rfl, b, rfl, ⟨_, hb⟩, for_list (K := K) (a := b) (xs := xs) (fun i σ H' => ∃ y3 y4 y5 y6 y7, σ = [some (.ref b), some (.ref l), some (.ref r), y3, y4, y5, y6, y7] ∧ H' = H ∧ ts.all (testV ns room) = (ts.drop i).all (testV ns room)) ⟨_, _, _, _, _, rfl, rfl, rfl⟩ (fun i σ H' _ ⟨_, _, _, _, _, _, e, _⟩ => by rw [e]; exact hb) ?_ ?_⟩
      · rintro i v σ H1 hi ⟨y3, y4, y5, y6, y7, rfl, rfl, e⟩
        obtain ⟨t, ht, x⟩ := all.get hi
        obtain ⟨hil, et⟩ := List.getElem?_eq_some_iff.mp ht
        rw [List.drop_eq_getElem_cons hil, et, List.all_cons] at e
        obtain ⟨z, sg, c, rfl, hz, hs, hc⟩ := test_cases (hw t (List.mem_of_getElem? ht))
        obtain ⟨a, x0, x1, x2, rfl, ha, z0, z1, z2⟩ := tup3 x
        cases z0
        cases z1
        obtain ⟨g1, g2⟩ := ix_str hz
        refine ⟨a, _, rfl, ha, rfl, _, _, rfl, _, _, rfl, _, _, rfl, rfl, ?_⟩
        refine ⟨_, rfl, _, rfl, .inl ⟨rfl, _, hl⟩, _, rfl, l, _, _, _, _, rfl, rfl, hl, rfl, flat_str _, g1, beq_self_eq_true _, g2, r, _, _, _, rfl, rfl, hr2, room_get hz hlen, ?_⟩
        refine ⟨_, rfl, _, rfl, _, rfl, x2, c, l, r, ns, room, rfl, z2, hc, hl, hr2, hlen, ?_⟩
        have e : ts.all (testV ns room) = (signV sg (room.getD (ixOf ns z) 0) (worthV ns room c) && (ts.drop (i + 1)).all (testV ns room)) := e
        generalize room.getD (ixOf ns z) 0 = h at e
        generalize worthV ns room c = d at e
        unfold signV at e
        have e3 : Str.ofString "under" = sg ∨ sg = isS ∨ sg = notS := by
          simp only [testsL, List.mem_cons, List.not_mem_nil, or_false] at hs
          rcases hs with h | h | h
          · exact .inr (.inl h)
          · exact .inr (.inr h)
          · exact .inl h.symm
        have no : ∀ {x y : Str}, sg = x → x ≠ y → sg ≠ y := fun h1 h2 h3 => h2 (h1.symm.trans h3)
        have d1 : isS ≠ notS := by decide +kernel
        have d2 : isS ≠ Str.ofString "under" := by decide +kernel
        have d3 : notS ≠ Str.ofString "under" := by decide +kernel
        have d4 : Str.ofString "under" ≠ isS := by decide +kernel
        have d5 : Str.ofString "under" ≠ notS := by decide +kernel
        refine ⟨_, rfl, rfl, _, rfl, ?_⟩
        rw [dec_str]
        by_cases e1 : sg = isS
        · rw [if_pos e1] at e
          rw [decide_eq_true (show sg = Str.ofString "is" from e1)]
          refine iteT ⟨_, rfl, _, rfl, rfl, _, rfl, ?_⟩
          rw [dec_int]
          by_cases hd : h = d
          · rw [decide_eq_true hd, Bool.true_and] at e
            rw [decide_eq_true hd]
            refine iteF ⟨_, rfl, rfl, _, rfl, ?_⟩
            rw [dec_str, decide_eq_false (show sg ≠ Str.ofString "not" from no e1 d1)]
            refine iteF (iteF ⟨_, rfl, rfl, _, rfl, ?_⟩)
            rw [dec_str, decide_eq_false (no e1 d2)]
            exact iteF (iteF ⟨_, _, _, _, _, rfl, rfl, e⟩)
          · rw [decide_eq_false hd, Bool.false_and] at e
            rw [decide_eq_false hd]
            rw [e] at q
            exact iteT q
        · rw [if_neg e1] at e
          rw [decide_eq_false (show sg ≠ Str.ofString "is" from e1)]
          refine iteF (iteF ⟨_, rfl, rfl, _, rfl, ?_⟩)
          rw [dec_str]
          by_cases e2 : sg = notS
          · rw [if_pos e2] at e
            rw [decide_eq_true (show sg = Str.ofString "not" from e2)]
            refine iteT ⟨_, rfl, _, rfl, rfl, _, rfl, ?_⟩
            rw [dec_int]
            by_cases hd : h = d
            · rw [decide_eq_true hd] at e
              have e : ts.all (testV ns room) = false := e
              rw [decide_eq_true hd]
              rw [e] at q
              exact iteT q
            · rw [decide_eq_false hd] at e
              have e : ts.all (testV ns room) = (ts.drop (i + 1)).all (testV ns room) := e
              rw [decide_eq_false hd]
              refine iteF ⟨_, rfl, rfl, _, rfl, ?_⟩
              rw [dec_str, decide_eq_false (no e2 d3)]
              exact iteF (iteF ⟨_, _, _, _, _, rfl, rfl, e⟩)
          · rw [if_neg e2] at e
            rw [decide_eq_false (show sg ≠ Str.ofString "not" from e2)]
            have e4 : sg = Str.ofString "under" := by
              rcases e3 with k | k | k
              · exact k.symm
              · exact absurd k e1
              · exact absurd k e2
            refine iteF (iteF ⟨_, rfl, rfl, _, rfl, ?_⟩)
            rw [dec_str, decide_eq_true e4]
            refine iteT ⟨_, rfl, _, rfl, _, _, rfl, rfl, _, rfl, ?_⟩
            by_cases hd : h < d
            · rw [decide_eq_true hd, Bool.true_and] at e
              rw [decide_eq_false (show ¬ d ≤ h by omega)]
              exact iteF ⟨_, _, _, _, _, rfl, rfl, e⟩
            · rw [decide_eq_false hd, Bool.false_and] at e
              rw [decide_eq_true (show d ≤ h by omega)]
              rw [e] at q
              exact iteT q
      · rintro σ H1 ⟨y3, y4, y5, y6, y7, rfl, rfl, e⟩
        rw [all.len, List.drop_length] at e
        rw [e] at q
        exact q
def spNO (K : PySem.W.Frag) : Sp := fun vs H Q _ => ∃ (a : Addr) (xs : List V) (ts : List Th), vs = [.ref a] ∧ SqT K H a xs ∧ TAll 10 K H xs ts ∧ xs.length ≤ 10 ∧ (∀ t ∈ ts, ∃ z r, t = .tup (.str z :: r)) ∧ ∀ H' p, Same H H' → H' p = some (.lst ((ts.map fstS).map V.str)) → Q (.ref p) H'
theorem ok_no {f : Addr} {fd : FuncData} (F : Fun K "_law_names_of" "_law_names_of" s_law_names_of f fd) (T : Bi mg) : FnOk P w K mg base CX0 1 f fd ["_law_rows"] (spNO K) := by
  refine F.ok sc_law_names_of (fun vs H Q E h => ?_) (fun cdv A outer s H vs Q E hr h => ?_)
  · obtain ⟨a, xs, ts, rfl, _⟩ := h
    rfl
  · obtain ⟨a, xs, ts, rfl, ha, all, hlen, hs, q⟩ := h
    refine ⟨_, (pss_one (ps_ret (pe_lc (own := [("_law_row", 1)]) (g := gName 1) rfl sc_law_names_of.nd (pi_tup (pv 0)) (blkOk_by (own := [("_law_row", 1)]) (N := ["_law_rows", "_law_row"]) (sc := defScope s_law_names_of) (by decide +kernel)) (fun _ _ _ _ _ => (pg_name (i := 1) sc_law_names_of.nd rfl (.inl rfl))) (fun _ _ _ _ _ => pts_nil) (fun _ _ _ _ _ => (pe_ix (ixT K) (pv 1) pe_int (fun _ _ => rfl)))))), ?_⟩
    refine ⟨_, rfl, a, rfl, ⟨_, ha⟩, fun D hD => lc_thT (fun t => .str (fstS t)) ha all hD (by omega) (fun _ => rfl) (fun y t H3 mt yt s3 N1 N2 k1 => ?_) (fun H3 s3 hD3 => ?_)⟩
    · obtain ⟨z, r, rfl⟩ := hs t mt
      obtain ⟨b, ys, rfl, hb, _, all2⟩ := tupL yt
      cases all2 with
      | cons w0 w1 =>
        cases w0
        exact ⟨_, rfl, b, _, 0, _, rfl, rfl, hb, at_of (j := 0) rfl rfl, k1 _ (Same.refl _)⟩
    · refine q H3 D s3 ?_
      rw [hD3, List.map_map]
      rfl
def spCV (K : PySem.W.Frag) : Sp := fun vs H Q _ => ∃ (v : V) (t : Th) (l r : Addr) (ns : List Str) (room : Rm), vs = [v, .ref l, .ref r] ∧ TAt 10 K H v t ∧ commandB t ns = true ∧ SqL K H l (ns.map V.str) ∧ SqT K H r (room.map V.int) ∧ ns.length ≤ room.length ∧ ∀ H', Same H H' → Q (.bl (comeB ns room t)) H'
theorem ok_cv {f : Addr} {fd : FuncData} (F : Fun K "can_come" "can_come" scan_come f fd) (T : Bi mg) (ctest_holds : Cal P w K mg base 2 "test_holds" ["test", "names", "room"] (spTV K)) : FnOk P w K mg base CX0 3 f fd ["command", "names", "room"] (spCV K) := by
  refine F.ok sccan_come (fun vs H Q E h => ?_) (fun cdv A outer s H vs Q E hr h => ?_)
  · obtain ⟨v, t, l, r, ns, room, rfl, _⟩ := h
    rfl
  · obtain ⟨v, t, l, r, ns, room, rfl, x, hw, hl, hr2, hlen, q⟩ := h
    refine ⟨_, (pss_one (ps_ret (pe_callB (cr_all rfl) (by rfl) T.all (by decide +kernel) (pa_cons (pe_lc (own := [("test", 3)]) (g := gName 3) rfl sccan_come.nd (pi_tup (pe_ix ix_tup (pv 0) pe_int (fun _ _ => rfl))) (blkOk_by (own := [("test", 3)]) (N := ["command", "names", "room", "test"]) (sc := defScope scan_come) (by decide +kernel)) (fun _ _ _ _ _ => (pg_name (i := 3) sccan_come.nd rfl (.inl rfl))) (fun _ _ _ _ _ => pts_nil) (fun _ _ _ _ _ => (pe_call ctest_holds.G hr (by rfl) ctest_holds.g ctest_holds.kp ctest_holds.b .nil pass0 (pa_cons (pv 3) (pa_cons (pv 1) (pa_cons (pv 2) pa_nil)))))) pa_nil)))), ?_⟩
    obtain ⟨z, ts, ss, rfl, lt, ls, ht, _⟩ := command_cases hw
    obtain ⟨a, x0, x1, x2, rfl, ha, y0, y1, y2⟩ := tup3 x
    obtain ⟨b, xs, rfl, hb, lb, all⟩ := tupL y1
    refine ⟨_, rfl, a, _, 1, _, rfl, rfl, ha, at_of (j := 1) rfl rfl, b, rfl, ⟨_, hb⟩, fun D hD => lc_thT (fun t => .bl (testV ns room t)) hb all hD (by omega) (fun _ => rfl) (fun y t H3 mt yt s3 N1 N2 k1 => ?_) (fun H3 s3 hD3 => ?_)⟩
    · exact ⟨_, rfl, _, rfl, _, rfl, y, t, l, r, ns, room, rfl, yt, ht t mt, s3.seq hl, ssqt s3 hr2, hlen, k1 _ (Same.refl _)⟩
    · rw [all_bl (testV ns room)] at hD3
      refine ⟨D, _, rfl, SqL.of hD3, ?_⟩
      rw [all_id (testV ns room)]
      exact q H3 s3
end

/-! ### rooms: the first one, those behind -/
abbrev sfirst_room : Stmt := topS 9
theorem scfirst_room : FnScope ["program", "found", "name", "size", "first"] ["program"] (defScope sfirst_room) := ⟨rfl, rfl, rfl, by decide +kernel, rfl, by decide +kernel, by decide +kernel⟩
abbrev sroom_behind : Stmt := topS 8
theorem scroom_behind : FnScope ["program", "number", "room", "cells", "commands", "marks", "keeps", "names", "found", "name", "worth", "at", "cell"] ["program", "number", "room"] (defScope sroom_behind) := ⟨rfl, rfl, rfl, by decide +kernel, rfl, by decide +kernel, by decide +kernel⟩
abbrev srooms_behind : Stmt := topS 10
theorem scrooms_behind : FnScope ["program", "room", "names", "found", "number", "command", "cell"] ["program", "room"] (defScope srooms_behind) := ⟨rfl, rfl, rfl, by decide +kernel, rfl, by decide +kernel, by decide +kernel⟩
abbrev s_law_first_room : Stmt := topS 37
theorem sc_law_first_room : FnScope ["_law_program_here", "_law_found", "_law_cell"] ["_law_program_here"] (defScope s_law_first_room) := ⟨rfl, rfl, rfl, by decide +kernel, rfl, by decide +kernel, by decide +kernel⟩
abbrev s_law_next_room : Stmt := topS 36
theorem sc_law_next_room : FnScope ["_law_program_here", "_law_k", "_law_room", "_law_names_here", "_law_found", "_law_name_here", "_law_worth_here", "_law_at"] ["_law_program_here", "_law_k", "_law_room"] (defScope s_law_next_room) := ⟨rfl, rfl, rfl, by decide +kernel, rfl, by decide +kernel, by decide +kernel⟩
section
variable {P : Program} {w : World} {K : PySem.W.Frag} {mg : Str → Option Value} {base : Heap}
/-- a program in the heap -/
structure PgAt (K : PySem.W.Frag) (H : Hp) (a : Addr) (p : Pg) : Prop where
  ex : ∃ (c m k : Addr) (xc xm xk : List V), SqT K H a [.ref c, .ref m, .ref k, .bl p.keeps] ∧ SqT K H c xc ∧ TAll 10 K H xc p.cs ∧ SqT K H m xm ∧ TAll 10 K H xm p.ms ∧ SqT K H k xk ∧ TAll 10 K H xk p.ks
theorem TAll.samex {N : Nat} {H H' : Hp} {xs : List V} {ts : List Th} (s : Same H H') (x : TAll N K H xs ts) : TAll N K H' xs ts := TAll.keep (Nat.le_refl _) (fun _ _ h => ssqt s h) (fun _ xs h => ⟨xs, s _ _ h⟩) (fun _ _ h => s _ _ h) x
theorem PgAt.same {H H' : Hp} {a : Addr} {p : Pg} (x : PgAt K H a p) (s : Same H H') : PgAt K H' a p := by
  obtain ⟨c, m, k, xc, xm, xk, h1, h2, h3, h4, h5, h6, h7⟩ := x.ex
  exact ⟨c, m, k, xc, xm, xk, ssqt s h1, ssqt s h2, TAll.samex s h3, ssqt s h4, TAll.samex s h5, ssqt s h6, TAll.samex s h7⟩
theorem named {p : Pg} (G : GoodPg p) : (∀ t ∈ p.cs, ∃ z r, t = .tup (.str z :: r)) ∧ ∀ t ∈ p.ms, ∃ z r, t = .tup (.str z :: r) := by
  refine ⟨fun t ht => ?_, fun t ht => ?_⟩
  · obtain ⟨z, n, f, rfl, _⟩ := cell_cases (G.cells t ht)
    exact ⟨z, _, rfl⟩
  · obtain ⟨z, ts, ss, rfl, _⟩ := command_cases (G.cmds t ht)
    exact ⟨z, _, rfl⟩
def spFR (K : PySem.W.Frag) : Sp := fun vs H Q _ => ∃ (a : Addr) (p : Pg), vs = [.ref a] ∧ PgAt K H a p ∧ GoodPg p ∧ ∀ H' c, Same H H' → H' c = some (.tup ((firstV p).map V.int)) → Q (.ref c) H'
theorem ok_fr {f : Addr} {fd : FuncData} (F : Fun K "first_room" "first_room" sfirst_room f fd) (T : Bi mg) : FnOk P w K mg base CX0 1 f fd ["program"] (spFR K) := by
  refine F.ok scfirst_room (fun vs H Q E h => ?_) (fun cdv A outer s H vs Q E hr h => ?_)
  · obtain ⟨a, p, rfl, _⟩ := h
    rfl
  · obtain ⟨a, p, rfl, x, G, q⟩ := h
    obtain ⟨c, m, k, xc, xm, xk, h1, h2, h3, h4, h5, h6, h7⟩ := x.ex
    have lc := h3.len
    have c4 := G.c4
    refine ⟨_, (pss_cons (ps_setLc (i := 1) (own := [("name", 2), ("size", 3), ("first", 4)]) (g := gTup K 3 (gCons (gName 2) (gCons (gName 3) (gCons (gName 4) gNil)))) (by rfl) scfirst_room.nd rfl rfl (sw_true rfl rfl rfl (by decide +kernel)) (pi_tup (pe_ix ix_tup (pv 0) pe_int (fun _ _ => rfl))) (blkOk_by (own := [("name", 2), ("size", 3), ("first", 4)]) (N := ["program", "found", "name", "size", "first"]) (sc := defScope sfirst_room) (by decide +kernel)) (fun _ _ _ _ _ => (pg_tup rfl (pgs_cons (pg_name (i := 2) scfirst_room.nd rfl (.inl rfl)) (pgs_cons (pg_name (i := 3) scfirst_room.nd rfl (.inl rfl)) (pgs_cons (pg_name (i := 4) scfirst_room.nd rfl (.inl rfl)) pgs_nil))))) (fun _ _ _ _ _ => pts_nil) (fun _ _ _ _ _ => (pv 4)))
      (pss_cons (ps_if (pt_truth (pe_ix ix_tup (pv 0) pe_int (fun _ _ => rfl)) (by intro _; rfl))
        (pss_one (ps_expr (pe_bm PySem.F.plainAttrs_list PySem.F.slot_list_append PySem.F.type_list_append mt_append (pv 1) (pa_cons (pe_un un_neg pe_int) pa_nil))))
        pss_nil)
      (pss_one (ps_ret (pe_callTy call_tuple_of (by rfl) T.tuple (by decide +kernel) (pa_cons (pv 1) pa_nil)))))), ?_⟩
    refine ⟨_, rfl, a, _, 0, _, rfl, rfl, h1, at_of (j := 0) rfl rfl, c, rfl, ⟨_, h2⟩, fun D hD => lc_tup (xs := xc) (fun i H' => Same H H' ∧ H' D = some (.lst (((p.cs.take i).map firstI).map V.int))) ⟨same_upd hD, upd_same⟩ (fun i H' _ e => ssqt e.1 h2) (fun i v H' hi e => ?_) (fun H' e => ?_)⟩
    · obtain ⟨t, ht, y⟩ := h3.get hi
      obtain ⟨z, n, f, rfl, _⟩ := cell_cases (G.cells t (List.mem_of_getElem? ht))
      obtain ⟨b, x0, x1, x2, rfl, hb, y0, y1, y2⟩ := tup3 (y.same e.1)
      cases y2
      refine ⟨b, _, rfl, hb, rfl, _, _, rfl, _, _, rfl, _, _, rfl, rfl, rfl, _, rfl, _, e.2, szLt (by rw [List.length_map, List.length_map, List.length_take]; omega), smut e.1 hD, ?_⟩
      rw [upd_same, List.take_add_one, ht, List.map_append, List.map_append]
      rfl
    · obtain ⟨s1, hD1⟩ := e
      rw [lc, List.take_length] at hD1
      refine ⟨_, rfl, a, _, 3, _, rfl, rfl, ssqt s1 h1, at_of (j := 3) rfl rfl, p.keeps, rfl, ?_⟩
      unfold firstV at q
      cases hk : p.keeps with
      | false =>
        rw [hk, if_neg (by decide), List.append_nil] at q
        refine iteF ⟨_, rfl, D, _, rfl, .inl ⟨SqL.of hD1, fun u hu => ?_⟩⟩
        exact q _ u (s1.trans (same_upd hu)) upd_same
      | true =>
        rw [hk, if_pos rfl] at q
        refine iteT ⟨_, rfl, .inl ⟨rfl, _, SqL.of hD1⟩, _, rfl, D, _, _, rfl, rfl, hD1, szLt (by rw [List.length_map, List.length_map]; omega), ?_⟩
        refine ⟨_, rfl, D, _, rfl, .inl ⟨SqL.of upd_same, fun u hu => ?_⟩⟩
        refine q _ u ((smut s1 hD).trans (same_upd hu)) ?_
        rw [upd_same, List.map_append]
        rfl
theorem ok_lfr {f : Addr} {fd : FuncData} (F : Fun K "_law_first_room" "_law_first_room" s_law_first_room f fd) (T : Bi mg) : FnOk P w K mg base CX0 1 f fd ["_law_program_here"] (spFR K) := by
  refine F.ok sc_law_first_room (fun vs H Q E h => ?_) (fun cdv A outer s H vs Q E hr h => ?_)
  · obtain ⟨a, p, rfl, _⟩ := h
    rfl
  · obtain ⟨a, p, rfl, x, G, q⟩ := h
    obtain ⟨c, m, k, xc, xm, xk, h1, h2, h3, h4, h5, h6, h7⟩ := x.ex
    have lc := h3.len
    have c4 := G.c4
    refine ⟨_, (pss_cons (ps_setLc (i := 1) (own := [("_law_cell", 2)]) (g := gName 2) (by rfl) sc_law_first_room.nd rfl rfl (sw_true rfl rfl rfl (by decide +kernel)) (pi_tup (pe_ix ix_tup (pv 0) pe_int (fun _ _ => rfl))) (blkOk_by (own := [("_law_cell", 2)]) (N := ["_law_program_here", "_law_found", "_law_cell"]) (sc := defScope s_law_first_room) (by decide +kernel)) (fun _ _ _ _ _ => (pg_name (i := 2) sc_law_first_room.nd rfl (.inl rfl))) (fun _ _ _ _ _ => pts_nil) (fun _ _ _ _ _ => (pe_ix (ixT K) (pv 2) pe_int (fun _ _ => rfl))))
      (pss_cons (ps_if (pt_truth (pe_ix ix_tup (pv 0) pe_int (fun _ _ => rfl)) (by intro _; rfl))
        (pss_one (ps_expr (pe_bm PySem.F.plainAttrs_list PySem.F.slot_list_append PySem.F.type_list_append mt_append (pv 1) (pa_cons (pe_un un_neg pe_int) pa_nil))))
        pss_nil)
      (pss_one (ps_ret (pe_callTy call_tuple_of (by rfl) T.tuple (by decide +kernel) (pa_cons (pv 1) pa_nil)))))), ?_⟩
    refine ⟨_, rfl, a, _, 0, _, rfl, rfl, h1, at_of (j := 0) rfl rfl, c, rfl, ⟨_, h2⟩, fun D hD => lc_thT (fun t => .int (firstI t)) h2 h3 hD (by omega) (fun _ => rfl) (fun v t H' mt y s1 N1 N2 k1 => ?_) (fun H' s1 hD1 => ?_)⟩
    · obtain ⟨z, n, f, rfl, _⟩ := cell_cases (G.cells t mt)
      obtain ⟨b, x0, x1, x2, rfl, hb, y0, y1, y2⟩ := tup3 y
      cases y2
      exact ⟨_, rfl, b, _, 2, _, rfl, rfl, hb, at_of (j := 2) rfl rfl, k1 _ (Same.refl _)⟩
    · have hD1 : H' D = some (.lst ((p.cs.map firstI).map V.int)) := by
        rw [hD1, List.map_map]
        rfl
      refine ⟨_, rfl, a, _, 3, _, rfl, rfl, ssqt s1 h1, at_of (j := 3) rfl rfl, p.keeps, rfl, ?_⟩
      unfold firstV at q
      cases hk : p.keeps with
      | false =>
        rw [hk, if_neg (by decide), List.append_nil] at q
        refine iteF ⟨_, rfl, D, _, rfl, .inl ⟨SqL.of hD1, fun u hu => ?_⟩⟩
        exact q _ u (s1.trans (same_upd hu)) upd_same
      | true =>
        rw [hk, if_pos rfl] at q
        refine iteT ⟨_, rfl, .inl ⟨rfl, _, SqL.of hD1⟩, _, rfl, D, _, _, rfl, rfl, hD1, szLt (by rw [List.length_map, List.length_map]; omega), ?_⟩
        refine ⟨_, rfl, D, _, rfl, .inl ⟨SqL.of upd_same, fun u hu => ?_⟩⟩
        refine q _ u ((smut s1 hD).trans (same_upd hu)) ?_
        rw [upd_same, List.map_append]
        rfl
theorem ixN_end {n : Nat} : ixN (n + 1) (-1) = some n := by
  unfold ixN
  rw [if_neg (by decide)]
  rw [if_pos (by omega)]
  congr 1
  omega
theorem setV_str {p : Pg} {r f : Rm} {z : Str} {w : Th} : setV p r f (.tup [.str z, w]) = f.set (ixOf p.ns z) (worthV p.ns r w % szI (p.cs.getD (ixOf p.ns z) .non)) := rfl
def spRB (K : PySem.W.Frag) : Sp := fun vs H Q _ => ∃ (a r : Addr) (p : Pg) (k : Nat) (room : Rm), vs = [.ref a, .int (k : Nat), .ref r] ∧ PgAt K H a p ∧ GoodPg p ∧ SqT K H r (room.map V.int) ∧ RmOk p room ∧ k < p.ms.length ∧ ∀ H' c, Same H H' → H' c = some (.tup ((nextV p k room).map V.int)) → Q (.ref c) H'
theorem ok_rb {f : Addr} {fd : FuncData} (F : Fun K "room_behind" "room_behind" sroom_behind f fd) (T : Bi mg) (cworth_of : Cal P w K mg base 1 "worth_of" ["worth", "names", "room"] (spWV K)) : FnOk P w K mg base CX0 2 f fd ["program", "number", "room"] (spRB K) := by
  refine F.ok scroom_behind (fun vs H Q E h => ?_) (fun cdv A outer s H vs Q E hr h => ?_)
  · obtain ⟨a, r, p, k, room, rfl, _⟩ := h
    rfl
  · obtain ⟨a, r, p, k, room, rfl, x, G, hroom, R, hk, q⟩ := h
    obtain ⟨c, m, kk, xc, xm, xk, h1, h2, h3, h4, h5, h6, h7⟩ := x.ex
    have lc := h3.len
    have c4 := G.c4
    have nl := ns_len p
    have rl := R.len
    obtain ⟨z, ts, ss, e1, e2, lt, ls, _, hss⟩ := cmd_at G hk
    obtain ⟨cv, hcv, cx⟩ : ∃ v, xm[k]? = some v ∧ TAt 10 K H v (.tup [.str z, .tup ts, .tup ss]) := by
      have hl : k < xm.length := by rw [h5.len]; exact hk
      have hv : xm[k]? = some xm[k] := List.getElem?_eq_getElem hl
      obtain ⟨t, ht, y⟩ := h5.get hv
      rw [e1] at ht
      cases ht
      exact ⟨_, hv, y⟩
    obtain ⟨ca, x0, x1, x2, rfl, hca, _, _, y2⟩ := tup3 cx
    obtain ⟨sa, sx, rfl, hsa, _, sall⟩ := tupL y2
    have eS : setsV p k room = ss.foldl (setV p room) room := by
      unfold setsV
      rw [e2]
      rfl
    refine ⟨_, (pss_cons (ps_asg (pv 0) (pg_tup rfl (pgs_cons (pg_name (i := 3) scroom_behind.nd rfl (.inl rfl)) (pgs_cons (pg_name (i := 4) scroom_behind.nd rfl (.inl rfl)) (pgs_cons (pg_name (i := 5) scroom_behind.nd rfl (.inl rfl)) (pgs_cons (pg_name (i := 6) scroom_behind.nd rfl (.inl rfl)) pgs_nil))))))
      (pss_cons (ps_setLc (i := 7) (own := [("cell", 12)]) (g := gName 12) (by rfl) scroom_behind.nd rfl rfl (sw_true rfl rfl rfl (by decide +kernel)) (pi_tup (pv 3)) (blkOk_by (own := [("cell", 12)]) (N := ["program", "number", "room", "cells", "commands", "marks", "keeps", "names", "found", "name", "worth", "at", "cell"]) (sc := defScope sroom_behind) (by decide +kernel)) (fun _ _ _ _ _ => (pg_name (i := 12) scroom_behind.nd rfl (.inl rfl))) (fun _ _ _ _ _ => pts_nil) (fun _ _ _ _ _ => (pe_ix (ixT K) (pv 12) pe_int (fun _ _ => rfl))))
      (pss_cons (ps_set (i := 8) scroom_behind.nd rfl (.inl rfl) (pe_callTy call_list_of (by rfl) T.list (by decide +kernel) (pa_cons (pv 2) pa_nil)))
      (pss_cons (ps_for PassesOwn.never rfl (pi_tup (pe_ix ix_tup (pe_ix ix_tup (pv 4) (pv 1) (fun _ _ => rfl)) pe_int (fun _ _ => rfl))) (pg_tup rfl (pgs_cons (pg_name (i := 9) scroom_behind.nd rfl (.inl rfl)) (pgs_cons (pg_name (i := 10) scroom_behind.nd rfl (.inl rfl)) pgs_nil)))
        (pss_cons (ps_set (i := 11) scroom_behind.nd rfl (.inl rfl) (pe_bm PySem.F.plainAttrs_list PySem.F.slot_list_index PySem.F.type_list_index mt_index (pv 7) (pa_cons (pv 9) pa_nil)))
        (pss_one (ps_asg (pe_op op_mod (pe_call cworth_of.G hr (by rfl) cworth_of.g cworth_of.kp cworth_of.b .nil pass0 (pa_cons (pv 10) (pa_cons (pv 7) (pa_cons (pv 2) pa_nil)))) (pe_ix ix_tup (pe_ix ix_tup (pv 3) (pv 11) (fun _ _ => rfl)) pe_int (fun _ _ => rfl))) (pg_sub (pv 8) (pv 11) set_list)))))
      (pss_cons (ps_if (pt_truth (pv 6) (by intro _; rfl))
        (pss_one (ps_asg (pv 1) (pg_sub (pv 8) (pe_un un_neg pe_int) set_list)))
        pss_nil)
      (pss_one (ps_ret (pe_callTy call_tuple_of (by rfl) T.tuple (by decide +kernel) (pa_cons (pv 8) pa_nil))))))))), ?_⟩
    refine ⟨_, rfl, a, _, rfl, h1, rfl, _, _, rfl, _, _, rfl, _, _, rfl, _, _, rfl, rfl, ?_⟩
    refine ⟨_, rfl, c, rfl, ⟨_, h2⟩, fun D hD => lc_thT (fun t => .str (fstS t)) h2 h3 hD (by omega) (fun _ => rfl) (fun v t H' mt y s1 N1 N2 k1 => ?_) (fun H2 s2 hD2 => ?_)⟩
    · obtain ⟨z, rr, rfl⟩ := (named G).1 t mt
      obtain ⟨b, ys, rfl, hb, _, all2⟩ := tupL y
      cases all2 with
      | cons w0 w1 =>
        cases w0
        exact ⟨_, rfl, b, _, 0, _, rfl, rfl, hb, at_of (j := 0) rfl rfl, k1 _ (Same.refl _)⟩
    have hD2 : H2 D = some (.lst (p.ns.map V.str)) := by
      rw [hD2]
      unfold Pg.ns
      rw [List.map_map]
      rfl
    refine ⟨_, rfl, r, _, rfl, .inr (ssqt s2 hroom), fun L hL => ?_⟩
    have s3 := same_upd (o := .lst (room.map V.int)) hL
    have hL0 : H L = none := by
      cases e : H L with
      | none => rfl
      | some o => exact nomatch hL.symm.trans (s2 _ _ e)
    have nLD : L ≠ D := (ne_of_none hD2 hL).symm
    have hL3 : (L2.upd H2 L (.lst (room.map V.int))) L = some (.lst (room.map V.int)) := upd_same
    have hD3 := s3 _ _ hD2
    have s23 := s2.trans s3
    generalize (L2.upd H2 L (.lst (room.map V.int))) = H3 at s3 hL3 hD3 s23
    refine ⟨_, rfl, _, rfl, m, _, _, _, rfl, rfl, ssqt s23 h4, atI_nat hcv, ca, _, 2, _, rfl, rfl, ssqt s23 hca, at_of (j := 2) rfl rfl, sa, rfl, ⟨_, ssqt s23 hsa⟩, for_tup (K := K) (a := sa) (xs := sx) (fun i σ H' => ∃ (y9 y10 y11 : Option V) (f : Rm), σ = [some (.ref a), some (.int (k : Nat)), some (.ref r), some (.ref c), some (.ref m), some (.ref kk), some (.bl p.keeps), some (.ref D), some (.ref L), y9, y10, y11, none] ∧ Same H H' ∧ H' D = some (.lst (p.ns.map V.str)) ∧ H' L = some (.lst (f.map V.int)) ∧ SetOk p room f ∧ ss.foldl (setV p room) room = (ss.drop i).foldl (setV p room) f)
      ⟨_, _, _, room, rfl, s23, hD3, hL3, R.set, rfl⟩ (fun i σ H' _ ⟨_, _, _, _, _, e, _⟩ => ssqt e hsa) ?_ ?_⟩
    · rintro i v σ H4 hi ⟨y9, y10, y11, f, rfl, s4, d4, l4, S4, e4⟩
      obtain ⟨t, ht, y⟩ := sall.get hi
      obtain ⟨hil, et⟩ := List.getElem?_eq_some_iff.mp ht
      rw [List.drop_eq_getElem_cons hil, et] at e4
      have hsr := hss t (List.mem_of_getElem? ht)
      have S5 := set_ok G S4 hsr
      obtain ⟨z2, w2, rfl, hz, hw⟩ := setRow_cases hsr
      obtain ⟨b, v0, v1, rfl, hb, z0, z1⟩ := tup2 (y.same s4)
      cases z0
      obtain ⟨g1, g2⟩ := ix_str hz
      have hj := ix_lt hz
      rw [nl] at hj
      have hcell : p.cs[ixOf p.ns z2]? = some p.cs[ixOf p.ns z2] := List.getElem?_eq_getElem hj
      obtain ⟨cz, cn, cf, ec, n1, _⟩ := cell_cases (G.cells _ (List.mem_of_getElem? hcell))
      rw [ec] at hcell
      obtain ⟨xv, hxv, cy⟩ : ∃ v, xc[ixOf p.ns z2]? = some v ∧ TAt 10 K H4 v (.tup [.str cz, .int cn, .int cf]) := by
        have hl : ixOf p.ns z2 < xc.length := by omega
        have hv : xc[ixOf p.ns z2]? = some xc[ixOf p.ns z2] := List.getElem?_eq_getElem hl
        obtain ⟨t, ht, y⟩ := h3.get hv
        rw [hcell] at ht
        cases ht
        exact ⟨_, hv, y.same s4⟩
      obtain ⟨xb, w0, w1, w3, rfl, hxb, _, wy1, _⟩ := tup3 cy
      cases wy1
      have lf : f.length = room.length := S4.len
      refine ⟨b, _, rfl, hb, rfl, _, _, rfl, _, _, rfl, rfl, ?_⟩
      refine ⟨_, rfl, .inl ⟨rfl, _, SqL.of d4⟩, _, rfl, D, _, _, _, _, rfl, rfl, SqL.of d4, rfl, flat_str _, g1, beq_self_eq_true _, g2, ?_⟩
      refine ⟨_, rfl, _, rfl, _, rfl, v1, w2, D, r, p.ns, room, rfl, z1, hw, SqL.of d4, ssqt s4 hroom, by omega, ?_⟩
      refine ⟨_, rfl, _, rfl, c, _, _, _, rfl, rfl, ssqt s4 h2, atI_nat hxv, xb, _, 1, _, rfl, rfl, hxb, at_of (j := 1) rfl rfl, _, _, rfl, rfl, (show (0 : Int) < cn by omega), ?_⟩
      refine ⟨_, rfl, _, rfl, L, _, _, _, rfl, rfl, l4, ixN_nat (by rw [List.length_map]; omega), ?_⟩
      refine ⟨_, _, _, _, rfl, smut s4 hL0, by rw [upd_ne nLD.symm]; exact d4, ?_, S5, e4⟩
      rw [upd_same, setV_str, List.map_set, List.getD_eq_getElem?_getD, hcell]
      rfl
    · rintro σ H4 ⟨y9, y10, y11, f, rfl, s4, d4, l4, S4, e4⟩
      rw [sall.len, List.drop_length] at e4
      have e4 : ss.foldl (setV p room) room = f := e4
      rw [e4] at eS
      have lf : f.length = room.length := S4.len
      refine ⟨_, rfl, p.keeps, rfl, ?_⟩
      unfold nextV at q
      rw [eS] at q
      cases hkp : p.keeps with
      | false =>
        rw [hkp, if_neg (by decide)] at q
        refine iteF ⟨_, rfl, L, _, rfl, .inl ⟨SqL.of l4, fun u hu => ?_⟩⟩
        exact q _ u (s4.trans (same_upd hu)) upd_same
      | true =>
        rw [hkp, if_pos rfl] at q rl
        refine iteT ⟨_, rfl, _, rfl, _, rfl, L, _, _, p.cs.length, rfl, rfl, l4, by rw [List.length_map, lf, rl]; exact ixN_end, ?_⟩
        refine ⟨_, rfl, L, _, rfl, .inl ⟨SqL.of upd_same, fun u hu => ?_⟩⟩
        refine q _ u ((smut s4 hL0).trans (same_upd hu)) ?_
        rw [upd_same, List.map_set]
end

section
variable {P : Program} {w : World} {K : PySem.W.Frag} {mg : Str → Option Value} {base : Heap}
theorem succ_take {p : Pg} {r : Rm} {i : Nat} : (List.range (i + 1)).filterMap (succO p r) = (List.range i).filterMap (succO p r) ++ (match succO p r i with | some x => [x] | none => []) := by
  rw [List.range_succ, List.filterMap_append, List.filterMap_cons, List.filterMap_nil]
  cases succO p r i <;> rfl
def spRS (K : PySem.W.Frag) : Sp := fun vs H Q _ => ∃ (a r : Addr) (p : Pg) (room : Rm), vs = [.ref a, .ref r] ∧ PgAt K H a p ∧ GoodPg p ∧ SqT K H r (room.map V.int) ∧ RmOk p room ∧ ∀ H' c bs, Same H H' → H' c = some (.lst (bs.map V.ref)) → H c = none → Each (fun b (x : Rm) => H' b = some (.tup (x.map V.int))) bs (succV p room) → Q (.ref c) H'
theorem ok_rs {f : Addr} {fd : FuncData} (F : Fun K "rooms_behind" "rooms_behind" srooms_behind f fd) (T : Bi mg) (ccan_come : Cal P w K mg base 3 "can_come" ["command", "names", "room"] (spCV K)) (croom_behind : Cal P w K mg base 2 "room_behind" ["program", "number", "room"] (spRB K)) : FnOk P w K mg base CX0 4 f fd ["program", "room"] (spRS K) := by
  refine F.ok scrooms_behind (fun vs H Q E h => ?_) (fun cdv A outer s H vs Q E hr h => ?_)
  · obtain ⟨a, r, p, room, rfl, _⟩ := h
    rfl
  · obtain ⟨a, r, p, room, rfl, x, G, hroom, R, q⟩ := h
    obtain ⟨c, m, kk, xc, xm, xk, h1, h2, h3, h4, h5, h6, h7⟩ := x.ex
    have lc := h3.len
    have c4 := G.c4
    have m8 := G.m8
    have lm := h5.len
    have nl := ns_len p
    have rl := R.len
    refine ⟨_, (pss_cons (ps_setLc (i := 2) (own := [("cell", 6)]) (g := gName 6) (by rfl) scrooms_behind.nd rfl rfl (sw_true rfl rfl rfl (by decide +kernel)) (pi_tup (pe_ix ix_tup (pv 0) pe_int (fun _ _ => rfl))) (blkOk_by (own := [("cell", 6)]) (N := ["program", "room", "names", "found", "number", "command", "cell"]) (sc := defScope srooms_behind) (by decide +kernel)) (fun _ _ _ _ _ => (pg_name (i := 6) scrooms_behind.nd rfl (.inl rfl))) (fun _ _ _ _ _ => pts_nil) (fun _ _ _ _ _ => (pe_ix (ixT K) (pv 6) pe_int (fun _ _ => rfl))))
      (pss_cons (ps_set (i := 3) scrooms_behind.nd rfl (.inl rfl) (pe_lst pa_nil))
      (pss_cons (ps_for PassesOwn.never rfl (pi_enumT K (by rfl) T.enumerate (pa_cons (pe_ix ix_tup (pv 0) pe_int (fun _ _ => rfl)) pa_nil)) (pg_tup rfl (pgs_cons (pg_name (i := 4) scrooms_behind.nd rfl (.inl rfl)) (pgs_cons (pg_name (i := 5) scrooms_behind.nd rfl (.inl rfl)) pgs_nil)))
        (pss_one (ps_if (pt_val (pe_call ccan_come.G hr (by rfl) ccan_come.g ccan_come.kp ccan_come.b .nil pass0 (pa_cons (pv 5) (pa_cons (pv 2) (pa_cons (pv 1) pa_nil)))))
          (pss_one (ps_expr (pe_bm PySem.F.plainAttrs_list PySem.F.slot_list_append PySem.F.type_list_append mt_append (pv 3) (pa_cons (pe_call croom_behind.G (hr.mono (by decide)) (by rfl) croom_behind.g croom_behind.kp croom_behind.b .nil pass0 (pa_cons (pv 0) (pa_cons (pv 4) (pa_cons (pv 1) pa_nil)))) pa_nil))))
          pss_nil)))
      (pss_one (ps_ret (pv 3)))))), ?_⟩
    refine ⟨_, rfl, a, _, 0, _, rfl, rfl, h1, at_of (j := 0) rfl rfl, c, rfl, ⟨_, h2⟩, fun D hD => lc_thT (fun t => .str (fstS t)) h2 h3 hD (by omega) (fun _ => rfl) (fun v t H' mt y s1 N1 N2 k1 => ?_) (fun H2 s2 hD2 => ?_)⟩
    · obtain ⟨z, rr, rfl⟩ := (named G).1 t mt
      obtain ⟨b, ys, rfl, hb, _, all2⟩ := tupL y
      cases all2 with
      | cons w0 w1 =>
        cases w0
        exact ⟨_, rfl, b, _, 0, _, rfl, rfl, hb, at_of (j := 0) rfl rfl, k1 _ (Same.refl _)⟩
    have hD2 : H2 D = some (.lst (p.ns.map V.str)) := by
      rw [hD2]
      unfold Pg.ns
      rw [List.map_map]
      rfl
    refine ⟨Nat.zero_le _, fun L hL => ?_⟩
    have s3 := same_upd (o := .lst []) hL
    have hL0 : H L = none := by
      cases e : H L with
      | none => rfl
      | some o => exact nomatch hL.symm.trans (s2 _ _ e)
    have nLD : L ≠ D := (ne_of_none hD2 hL).symm
    have hL3 : (L2.upd H2 L (.lst [])) L = some (.lst []) := upd_same
    have hD3 := s3 _ _ hD2
    have s23 := s2.trans s3
    generalize (L2.upd H2 L (.lst [])) = H3 at s3 hL3 hD3 s23
    refine ⟨_, rfl, a, _, 1, _, rfl, rfl, ssqt s23 h1, at_of (j := 1) rfl rfl, m, _, rfl, ssqt s23 h4, for_it (EnT.walk (K := K) (a := m) (xs := xm)) (fun i σ H' => ∃ (y4 y5 : Option V) (bs : List Addr), σ = [some (.ref a), some (.ref r), some (.ref D), some (.ref L), y4, y5, none] ∧ Same H H' ∧ H' D = some (.lst (p.ns.map V.str)) ∧ H' L = some (.lst (bs.map V.ref)) ∧ Each (fun b (x : Rm) => H' b = some (.tup (x.map V.int))) bs ((List.range i).filterMap (succO p room)) ∧ bs.length ≤ i)
      ⟨_, _, [], rfl, s23, hD3, hL3, .nil, Nat.le_refl _⟩ (fun i σ H' _ ⟨_, _, _, _, e, _⟩ => ssqt e h4) ?_ ?_⟩
    · rintro i v σ H4 H5 hi ⟨y4, y5, bs, rfl, s4, d4, l4, E4, lb⟩ ⟨T2, u, z, rfl, hT, rfl, e1, e2⟩
      cases e1
      have hi : i < p.ms.length := by omega
      have sT := same_upd (o := .tup [.int (i : Nat), z]) hT
      have s5 := s4.trans sT
      obtain ⟨cz, ts, ss, em, eg, _⟩ := cmd_at G hi
      obtain ⟨t, ht, cx⟩ := h5.get e2
      have hc := G.cmds t (List.mem_of_getElem? ht)
      have et : p.ms.getD i .non = t := by rw [List.getD_eq_getElem?_getD, ht]; rfl
      refine ⟨T2, _, rfl, SqT.of upd_same, rfl, _, _, rfl, _, _, rfl, rfl, ?_⟩
      have d5 := sT _ _ d4
      have l5 := sT _ _ l4
      refine ⟨_, rfl, _, rfl, _, rfl, z, t, D, r, p.ns, room, rfl, cx.same s5, hc, SqL.of d5, ssqt s5 hroom, by omega, fun H6 s6 => ⟨_, rfl, ?_⟩⟩
      have es := succ_take (p := p) (r := room) (i := i)
      have eo : succO p room i = if comeB p.ns room t = true then some (nextV p i room) else none := by
        unfold succO
        rw [et]
      have s46 := s5.trans s6
      have E6 := E4.imp fun b (x : Rm) h => s6 _ _ (sT _ _ h)
      cases hcm : comeB p.ns room t with
      | false =>
        rw [hcm, if_neg (by decide)] at eo
        rw [eo] at es
        dsimp only at es
        rw [List.append_nil] at es
        refine iteF ⟨_, _, bs, rfl, s46, s6 _ _ d5, s6 _ _ l5, ?_, by omega⟩
        rw [es]
        exact E6
      | true =>
        rw [hcm, if_pos rfl] at eo
        rw [eo] at es
        dsimp only at es
        refine iteT ⟨_, rfl, .inl ⟨rfl, _, SqL.of (s6 _ _ l5)⟩, _, rfl, _, rfl, _, rfl, a, r, p, i, room, rfl, x.same s46, G, ssqt s46 hroom, R, hi, fun H7 b s7 hb => ?_⟩
        have l7 := s7 _ _ (s6 _ _ l5)
        refine ⟨L, _, _, rfl, rfl, l7, szLt (by rw [List.length_map]; omega), ?_⟩
        have nt2 : ∀ (b2 : Addr) (ys : List V), H7 b2 = some (.tup ys) → (L2.upd H7 L (.lst (bs.map V.ref ++ [.ref b]))) b2 = some (.tup ys) := fun b2 ys hb => by
          rw [upd_ne (ne_of l7 hb (by intro z; cases z)).symm]
          exact hb
        refine ⟨_, _, bs ++ [b], rfl, smut (s46.trans s7) hL0, ?_, ?_, ?_, ?_⟩
        · rw [upd_ne nLD.symm]
          exact s7 _ _ (s6 _ _ d5)
        · rw [upd_same, List.map_append]
          rfl
        · rw [es]
          exact Each.snoc (nt2 _ _ hb) (E6.imp fun b (x : Rm) h => nt2 _ _ (s7 _ _ h))
        · rw [List.length_append]
          show bs.length + 1 ≤ i + 1
          omega
    · rintro σ H4 ⟨y4, y5, bs, rfl, s4, d4, l4, E4, lb⟩
      rw [lm] at E4
      exact ⟨_, rfl, q H4 L bs s4 l4 hL0 E4⟩
end

section
variable {P : Program} {w : World} {K : PySem.W.Frag} {mg : Str → Option Value} {base : Heap}
def spLN (K : PySem.W.Frag) : Sp := fun vs H Q _ => ∃ (a r : Addr) (p : Pg) (k : Nat) (room : Rm), vs = [.ref a, .int (k : Nat), .ref r] ∧ PgAt K H a p ∧ GoodPg p ∧ SqT K H r (room.map V.int) ∧ RmOk p room ∧ k < p.ms.length ∧
  (succO p room k = none → ∀ H', Same H H' → Q .non H') ∧ ∀ x, succO p room k = some x → ∀ H' c, Same H H' → H' c = some (.tup (x.map V.int)) → Q (.ref c) H'
theorem ok_ln {f : Addr} {fd : FuncData} (F : Fun K "_law_next_room" "_law_next_room" s_law_next_room f fd) (T : Bi mg) (c_law_names_of : Cal P w K mg base 1 "_law_names_of" ["_law_rows"] (spNO K)) (c_law_all_hold : Cal P w K mg base 2 "_law_all_hold" ["_law_tests", "_law_names_here", "_law_room"] (spAH K))
    (c_law_comes_to : Cal P w K mg base 1 "_law_comes_to" ["_law_worth_here", "_law_names_here", "_law_room"] (spWV K)) : FnOk P w K mg base CX0 3 f fd ["_law_program_here", "_law_k", "_law_room"] (spLN K) := by
  refine F.ok sc_law_next_room (fun vs H Q E h => ?_) (fun cdv A outer s H vs Q E hr h => ?_)
  · obtain ⟨a, r, p, k, room, rfl, _⟩ := h
    rfl
  · obtain ⟨a, r, p, k, room, rfl, x, G, hroom, R, hk, q0, q1⟩ := h
    obtain ⟨c, m, kk, xc, xm, xk, h1, h2, h3, h4, h5, h6, h7⟩ := x.ex
    have lc := h3.len
    have c4 := G.c4
    have nl := ns_len p
    have rl := R.len
    obtain ⟨z, ts, ss, e1, e2, lt, ls, hts, hss⟩ := cmd_at G hk
    obtain ⟨cv, hcv, cx⟩ : ∃ v, xm[k]? = some v ∧ TAt 10 K H v (.tup [.str z, .tup ts, .tup ss]) := by
      have hl : k < xm.length := by rw [h5.len]; exact hk
      have hv : xm[k]? = some xm[k] := List.getElem?_eq_getElem hl
      obtain ⟨t, ht, y⟩ := h5.get hv
      rw [e1] at ht
      cases ht
      exact ⟨_, hv, y⟩
    obtain ⟨ca, x0, x1, x2, rfl, hca, _, y1, y2⟩ := tup3 cx
    obtain ⟨ta, tx, rfl, hta, _, tall⟩ := tupL y1
    obtain ⟨sa, sx, rfl, hsa, _, sall⟩ := tupL y2
    have eS : setsV p k room = ss.foldl (setV p room) room := by
      unfold setsV
      rw [e2]
      rfl
    have eo : succO p room k = if ts.all (testV p.ns room) = true then some (nextV p k room) else none := by
      unfold succO
      rw [e2]
      rfl
    refine ⟨_, (pss_cons (ps_set (i := 3) sc_law_next_room.nd rfl (.inl rfl) (pe_call c_law_names_of.G (hr.mono (by decide)) (by rfl) c_law_names_of.g c_law_names_of.kp c_law_names_of.b .nil pass0 (pa_cons (pe_ix ix_tup (pv 0) pe_int (fun _ _ => rfl)) pa_nil)))
      (pss_cons (ps_if (pt_not (pt_val (pe_call c_law_all_hold.G hr (by rfl) c_law_all_hold.g c_law_all_hold.kp c_law_all_hold.b .nil pass0 (pa_cons (pe_ix ix_tup (pe_ix ix_tup (pe_ix ix_tup (pv 0) pe_int (fun _ _ => rfl)) (pv 1) (fun _ _ => rfl)) pe_int (fun _ _ => rfl)) (pa_cons (pv 3) (pa_cons (pv 2) pa_nil))))))
        (pss_one (ps_ret pe_non))
        pss_nil)
      (pss_cons (ps_set (i := 4) sc_law_next_room.nd rfl (.inl rfl) (pe_callTy call_list_of (by rfl) T.list (by decide +kernel) (pa_cons (pv 2) pa_nil)))
      (pss_cons (ps_for PassesOwn.never rfl (pi_tup (pe_ix ix_tup (pe_ix ix_tup (pe_ix ix_tup (pv 0) pe_int (fun _ _ => rfl)) (pv 1) (fun _ _ => rfl)) pe_int (fun _ _ => rfl))) (pg_tup rfl (pgs_cons (pg_name (i := 5) sc_law_next_room.nd rfl (.inl rfl)) (pgs_cons (pg_name (i := 6) sc_law_next_room.nd rfl (.inl rfl)) pgs_nil)))
        (pss_cons (ps_set (i := 7) sc_law_next_room.nd rfl (.inl rfl) (pe_bm PySem.F.plainAttrs_list PySem.F.slot_list_index PySem.F.type_list_index mt_index (pv 3) (pa_cons (pv 5) pa_nil)))
        (pss_one (ps_asg (pe_op op_mod (pe_call c_law_comes_to.G (hr.mono (by decide)) (by rfl) c_law_comes_to.g c_law_comes_to.kp c_law_comes_to.b .nil pass0 (pa_cons (pv 6) (pa_cons (pv 3) (pa_cons (pv 2) pa_nil)))) (pe_ix ix_tup (pe_ix ix_tup (pe_ix ix_tup (pv 0) pe_int (fun _ _ => rfl)) (pv 7) (fun _ _ => rfl)) pe_int (fun _ _ => rfl))) (pg_sub (pv 4) (pv 7) set_list)))))
      (pss_cons (ps_if (pt_truth (pe_ix ix_tup (pv 0) pe_int (fun _ _ => rfl)) (by intro _; rfl))
        (pss_one (ps_asg (pv 1) (pg_sub (pv 4) (pe_callB call_len_seq (by rfl) T.len PySem.boot_len (pa_cons (pv 3) pa_nil)) set_list)))
        pss_nil)
      (pss_one (ps_ret (pe_callTy call_tuple_of (by rfl) T.tuple (by decide +kernel) (pa_cons (pv 4) pa_nil))))))))), ?_⟩
    refine ⟨_, rfl, a, _, 0, _, rfl, rfl, h1, at_of (j := 0) rfl rfl, c, xc, p.cs, rfl, h2, h3, by omega, (named G).1, fun H2 D s2 hD2 => ?_⟩
    have hD2 : H2 D = some (.lst (p.ns.map V.str)) := hD2
    refine ⟨_, rfl, a, _, 1, _, rfl, rfl, ssqt s2 h1, at_of (j := 1) rfl rfl, _, rfl, m, _, _, _, rfl, rfl, ssqt s2 h4, atI_nat hcv, ca, _, 1, _, rfl, rfl, ssqt s2 hca, at_of (j := 1) rfl rfl, _, rfl, _, rfl, ta, D, r, tx, ts, p.ns, room, rfl, .inl (ssqt s2 hta), TAll.samex s2 tall, hts, SqL.of hD2, ssqt s2 hroom, by omega, _, rfl, ?_⟩
    cases hc : ts.all (testV p.ns room) with
    | false =>
      rw [hc, if_neg (by decide)] at eo
      exact iteT (q0 eo H2 s2)
    | true =>
    rw [hc, if_pos rfl] at eo
    have q := q1 _ eo
    refine iteF ⟨_, rfl, r, _, rfl, .inr (ssqt s2 hroom), fun L hL => ?_⟩
    have s3 := same_upd (o := .lst (room.map V.int)) hL
    have hL0 : H L = none := by
      cases e : H L with
      | none => rfl
      | some o => exact nomatch hL.symm.trans (s2 _ _ e)
    have nLD : L ≠ D := (ne_of_none hD2 hL).symm
    have hL3 : (L2.upd H2 L (.lst (room.map V.int))) L = some (.lst (room.map V.int)) := upd_same
    have hD3 := s3 _ _ hD2
    have s23 := s2.trans s3
    generalize (L2.upd H2 L (.lst (room.map V.int))) = H3 at s3 hL3 hD3 s23
    refine ⟨_, rfl, a, _, 1, _, rfl, rfl, ssqt s23 h1, at_of (j := 1) rfl rfl, _, rfl, m, _, _, _, rfl, rfl, ssqt s23 h4, atI_nat hcv, ca, _, 2, _, rfl, rfl, ssqt s23 hca, at_of (j := 2) rfl rfl, sa, rfl, ⟨_, ssqt s23 hsa⟩, for_tup (K := K) (a := sa) (xs := sx) (fun i σ H' => ∃ (y5 y6 y7 : Option V) (f : Rm), σ = [some (.ref a), some (.int (k : Nat)), some (.ref r), some (.ref D), some (.ref L), y5, y6, y7] ∧ Same H H' ∧ H' D = some (.lst (p.ns.map V.str)) ∧ H' L = some (.lst (f.map V.int)) ∧ SetOk p room f ∧ ss.foldl (setV p room) room = (ss.drop i).foldl (setV p room) f)
      ⟨_, _, _, room, rfl, s23, hD3, hL3, R.set, rfl⟩ (fun i σ H' _ ⟨_, _, _, _, _, e, _⟩ => ssqt e hsa) ?_ ?_⟩
    · rintro i v σ H4 hi ⟨y5, y6, y7, f, rfl, s4, d4, l4, S4, e4⟩
      obtain ⟨t, ht, y⟩ := sall.get hi
      obtain ⟨hil, et⟩ := List.getElem?_eq_some_iff.mp ht
      rw [List.drop_eq_getElem_cons hil, et] at e4
      have hsr := hss t (List.mem_of_getElem? ht)
      have S5 := set_ok G S4 hsr
      obtain ⟨z2, w2, rfl, hz, hw⟩ := setRow_cases hsr
      obtain ⟨b, v0, v1, rfl, hb, z0, z1⟩ := tup2 (y.same s4)
      cases z0
      obtain ⟨g1, g2⟩ := ix_str hz
      have hj := ix_lt hz
      rw [nl] at hj
      have hcell : p.cs[ixOf p.ns z2]? = some p.cs[ixOf p.ns z2] := List.getElem?_eq_getElem hj
      obtain ⟨cz, cn, cf, ec, n1, _⟩ := cell_cases (G.cells _ (List.mem_of_getElem? hcell))
      rw [ec] at hcell
      obtain ⟨xv, hxv, cy⟩ : ∃ v, xc[ixOf p.ns z2]? = some v ∧ TAt 10 K H4 v (.tup [.str cz, .int cn, .int cf]) := by
        have hl : ixOf p.ns z2 < xc.length := by omega
        have hv : xc[ixOf p.ns z2]? = some xc[ixOf p.ns z2] := List.getElem?_eq_getElem hl
        obtain ⟨t, ht, y⟩ := h3.get hv
        rw [hcell] at ht
        cases ht
        exact ⟨_, hv, y.same s4⟩
      obtain ⟨xb, w0, w1, w3, rfl, hxb, _, wy1, _⟩ := tup3 cy
      cases wy1
      have lf : f.length = room.length := S4.len
      refine ⟨b, _, rfl, hb, rfl, _, _, rfl, _, _, rfl, rfl, ?_⟩
      refine ⟨_, rfl, .inl ⟨rfl, _, SqL.of d4⟩, _, rfl, D, _, _, _, _, rfl, rfl, SqL.of d4, rfl, flat_str _, g1, beq_self_eq_true _, g2, ?_⟩
      refine ⟨_, rfl, _, rfl, _, rfl, v1, w2, D, r, p.ns, room, rfl, z1, hw, SqL.of d4, ssqt s4 hroom, by omega, ?_⟩
      refine ⟨_, rfl, a, _, 0, _, rfl, rfl, ssqt s4 h1, at_of (j := 0) rfl rfl, _, rfl, c, _, _, _, rfl, rfl, ssqt s4 h2, atI_nat hxv, xb, _, 1, _, rfl, rfl, hxb, at_of (j := 1) rfl rfl, _, _, rfl, rfl, (show (0 : Int) < cn by omega), ?_⟩
      refine ⟨_, rfl, _, rfl, L, _, _, _, rfl, rfl, l4, ixN_nat (by rw [List.length_map]; omega), ?_⟩
      refine ⟨_, _, _, _, rfl, smut s4 hL0, by rw [upd_ne nLD.symm]; exact d4, ?_, S5, e4⟩
      rw [upd_same, setV_str, List.map_set, List.getD_eq_getElem?_getD, hcell]
      rfl
    · rintro σ H4 ⟨y5, y6, y7, f, rfl, s4, d4, l4, S4, e4⟩
      rw [sall.len, List.drop_length] at e4
      have e4 : ss.foldl (setV p room) room = f := e4
      rw [e4] at eS
      have lf : f.length = room.length := S4.len
      refine ⟨_, rfl, a, _, 3, _, rfl, rfl, ssqt s4 h1, at_of (j := 3) rfl rfl, p.keeps, rfl, ?_⟩
      unfold nextV at q
      rw [eS] at q
      cases hkp : p.keeps with
      | false =>
        rw [hkp, if_neg (by decide)] at q
        refine iteF ⟨_, rfl, L, _, rfl, .inl ⟨SqL.of l4, fun u hu => ?_⟩⟩
        exact q _ u (s4.trans (same_upd hu)) upd_same
      | true =>
        rw [hkp, if_pos rfl] at q rl
        have ll : ((p.ns.map V.str).length : Nat) = p.cs.length := by rw [List.length_map, nl]
        refine iteT ⟨_, rfl, _, rfl, _, rfl, D, _, rfl, .inl (SqL.of d4), L, _, _, p.cs.length, rfl, rfl, l4, by rw [ll]; exact ixN_nat (by rw [List.length_map]; omega), ?_⟩
        refine ⟨_, rfl, L, _, rfl, .inl ⟨SqL.of upd_same, fun u hu => ?_⟩⟩
        refine q _ u ((smut s4 hL0).trans (same_upd hu)) ?_
        rw [upd_same, List.map_set]
end

/-! ### what a room bears -/
abbrev sask_holds : Stmt := topS 11
theorem scask_holds : FnScope ["program", "ask", "names", "room", "called", "number", "command"] ["program", "ask", "names", "room"] (defScope sask_holds) := ⟨rfl, rfl, rfl, by decide +kernel, rfl, by decide +kernel, by decide +kernel⟩
abbrev snames_in : Stmt := topS 12
theorem scnames_in : FnScope ["program", "room", "names", "found", "name", "rows", "cell", "row", "ask"] ["program", "room"] (defScope snames_in) := ⟨rfl, rfl, rfl, by decide +kernel, rfl, by decide +kernel, by decide +kernel⟩
abbrev scN_names_in : Scope := { kind := .function, names := [(".0", .local), ("row", .local), ("all", .globalImplicit), ("names", .cell), ("program", .cell), ("room", .cell)], isGenerator := false, isCoroutine := false }
section
variable {P : Program} {w : World} {K : PySem.W.Frag} {mg : Str → Option Value} {base : Heap}
theorem nameB_good {z : Str} (h : nameB (.str z) = true) : GoodName z := by
  rw [name_eq, Bool.and_eq_true, Bool.and_eq_true, Bool.and_eq_true, List.all_eq_true] at h
  exact ⟨of_decide_eq_true h.1.1.1, of_decide_eq_true h.1.1.2, of_decide_eq_true h.1.2, fun x hx => of_decide_eq_true (h.2 x hx)⟩
theorem askV_two {p : Pg} {r : Rm} {x z : Str} : askV p r (.tup [.str x, .str z]) = if x = lastS then decide (r.getD p.cs.length 0 = ((ixOf p.called z : Nat) : Int)) else comeB p.ns r (p.ms.getD (ixOf p.called z) .non) := rfl
theorem askV_test {p : Pg} {r : Rm} {z x : Str} {c : Th} : askV p r (.tup [.str z, .str x, c]) = testV p.ns r (.tup [.str z, .str x, c]) := rfl
theorem last_get {p : Pg} {r : Rm} (R : RmOk p r) (hk : p.keeps = true) : atI (r.map V.int) (-1) = some (.int (r.getD p.cs.length 0)) ∧ atI (r.map V.int) ((p.cs.length : Nat) : Int) = some (.int (r.getD p.cs.length 0)) := by
  obtain ⟨x, hx, _⟩ := R.last hk
  have rl := R.len
  rw [if_pos hk] at rl
  have e : r.getD p.cs.length 0 = x := by rw [List.getD_eq_getElem?_getD, hx]; rfl
  rw [e]
  refine ⟨?_, atI_nat (get_map hx)⟩
  unfold atI
  rw [List.length_map, rl, ixN_end]
  exact get_map hx
theorem called_len (p : Pg) : p.called.length = p.ms.length := List.length_map _
def spAV (K : PySem.W.Frag) : Sp := fun vs H Q _ => ∃ (a l r : Addr) (v : V) (p : Pg) (t : Th) (room : Rm), vs = [.ref a, v, .ref l, .ref r] ∧ PgAt K H a p ∧ GoodPg p ∧ TAt 10 K H v t ∧ askB t p.ns p.called p.keeps = true ∧ SqL K H l (p.ns.map V.str) ∧ SqT K H r (room.map V.int) ∧ RmOk p room ∧ ∀ H', Same H H' → Q (.bl (askV p room t)) H'
theorem ok_av {f : Addr} {fd : FuncData} (F : Fun K "ask_holds" "ask_holds" sask_holds f fd) (T : Bi mg) (ctest_holds : Cal P w K mg base 2 "test_holds" ["test", "names", "room"] (spTV K)) (ccan_come : Cal P w K mg base 3 "can_come" ["command", "names", "room"] (spCV K)) : FnOk P w K mg base CX0 4 f fd ["program", "ask", "names", "room"] (spAV K) := by
  refine F.ok scask_holds (fun vs H Q E h => ?_) (fun cdv A outer s H vs Q E hr h => ?_)
  · obtain ⟨a, l, r, v, p, t, room, rfl, _⟩ := h
    rfl
  · obtain ⟨a, l, r, v, p, t, room, rfl, x, G, y, hb, hl, hroom, R, q⟩ := h
    obtain ⟨c, m, kk, xc, xm, xk, h1, h2, h3, h4, h5, h6, h7⟩ := x.ex
    have lm := h5.len
    have m8 := G.m8
    have nl := ns_len p
    have rl := R.len
    refine ⟨_, (pss_cons (ps_if (pt_cmpR op_eq (pe_callB call_lenX (by rfl) T.len PySem.boot_len (pa_cons (pv 1) pa_nil)) pe_int (nomark _))
        (pss_one (ps_ret (pe_call ctest_holds.G (hr.mono (by decide)) (by rfl) ctest_holds.g ctest_holds.kp ctest_holds.b .nil pass0 (pa_cons (pv 1) (pa_cons (pv 2) (pa_cons (pv 3) pa_nil))))))
        pss_nil)
      (pss_cons (ps_setLc (i := 4) (own := [("command", 6)]) (g := gName 6) (by rfl) scask_holds.nd rfl rfl (sw_true rfl rfl rfl (by decide +kernel)) (pi_tup (pe_ix ix_tup (pv 0) pe_int (fun _ _ => rfl))) (blkOk_by (own := [("command", 6)]) (N := ["program", "ask", "names", "room", "called", "number", "command"]) (sc := defScope sask_holds) (by decide +kernel)) (fun _ _ _ _ _ => (pg_name (i := 6) scask_holds.nd rfl (.inl rfl))) (fun _ _ _ _ _ => pts_nil) (fun _ _ _ _ _ => (pe_ix (ixT K) (pv 6) pe_int (fun _ _ => rfl))))
      (pss_cons (ps_set (i := 5) scask_holds.nd rfl (.inl rfl) (pe_bm PySem.F.plainAttrs_list PySem.F.slot_list_index PySem.F.type_list_index mt_index (pv 4) (pa_cons (pe_ix ix_tup (pv 1) pe_int (fun _ _ => rfl)) pa_nil)))
      (pss_cons (ps_if (pt_cmpR op_eq (pe_ix ix_tup (pv 1) pe_int (fun _ _ => rfl)) pe_str (nomark _))
        (pss_one (ps_ret (pe_cmpR op_eq (pe_ix ix_tup (pv 3) (pe_un un_neg pe_int) (fun _ _ => rfl)) (pv 5) (nomark _))))
        pss_nil)
      (pss_one (ps_ret (pe_call ccan_come.G hr (by rfl) ccan_come.g ccan_come.kp ccan_come.b .nil pass0 (pa_cons (pe_ix ix_tup (pe_ix ix_tup (pv 0) pe_int (fun _ _ => rfl)) (pv 5) (fun _ _ => rfl)) (pa_cons (pv 2) (pa_cons (pv 3) pa_nil)))))))))), ?_⟩
    rcases ask_cases hb with ⟨sx, z, rfl, hx, hz, hk⟩ | ht
    · obtain ⟨b, v0, v1, rfl, hb2, z0, z1⟩ := tup2 y
      cases z0
      cases z1
      refine ⟨_, rfl, .inr ⟨b, _, rfl, .inr hb2, rfl, _, rfl, ?_⟩⟩
      refine iteF ?_
      refine ⟨_, rfl, a, _, 1, _, rfl, rfl, h1, at_of (j := 1) rfl rfl, m, rfl, ⟨_, h4⟩, fun D hD => lc_thT (fun t => .str (fstS t)) h4 h5 hD (by omega) (fun _ => rfl) (fun v t H' mt y s1 N1 N2 k1 => ?_) (fun H2 s2 hD2 => ?_)⟩
      · obtain ⟨z, rr, rfl⟩ := (named G).2 t mt
        obtain ⟨b, ys, rfl, hb, _, all2⟩ := tupL y
        cases all2 with
        | cons w0 w1 =>
          cases w0
          exact ⟨_, rfl, b, _, 0, _, rfl, rfl, hb, at_of (j := 0) rfl rfl, k1 _ (Same.refl _)⟩
      have hD2 : H2 D = some (.lst (p.called.map V.str)) := by
        rw [hD2]
        unfold Pg.called
        rw [List.map_map]
        rfl
      obtain ⟨g1, g2⟩ := ix_str hz
      have hj := ix_lt hz
      rw [called_len] at hj
      refine ⟨_, rfl, .inl ⟨rfl, _, SqL.of hD2⟩, _, rfl, b, _, 1, _, rfl, rfl, ssqt s2 hb2, at_of (j := 1) rfl rfl, D, _, _, _, _, rfl, rfl, SqL.of hD2, rfl, flat_str _, g1, beq_self_eq_true _, g2, ?_⟩
      refine ⟨_, rfl, b, _, 0, _, rfl, rfl, ssqt s2 hb2, at_of (j := 0) rfl rfl, rfl, _, rfl, ?_⟩
      rw [dec_str]
      rw [askV_two] at q
      by_cases e : sx = lastS
      · rw [if_pos e] at q
        rw [decide_eq_true (show sx = Str.ofString "last" from e)]
        have hk2 : p.keeps = true := by
          rcases hk with h | h
          · exact h
          · exact absurd (e.symm.trans h) (by decide +kernel)
        obtain ⟨g3, _⟩ := last_get R hk2
        refine iteT ⟨_, rfl, _, rfl, r, _, _, _, rfl, rfl, ssqt s2 hroom, g3, _, rfl, rfl, ?_⟩
        rw [dec_int]
        exact q H2 s2
      · rw [if_neg e] at q
        rw [decide_eq_false (show sx ≠ Str.ofString "last" from e)]
        obtain ⟨cz, ts, ss, em, eg, _⟩ := cmd_at G hj
        obtain ⟨cv, hcv, cx⟩ : ∃ v, xm[ixOf p.called z]? = some v ∧ TAt 10 K H v (p.ms.getD (ixOf p.called z) .non) := by
          have hl : ixOf p.called z < xm.length := by omega
          have hv : xm[ixOf p.called z]? = some xm[ixOf p.called z] := List.getElem?_eq_getElem hl
          obtain ⟨t, ht, y⟩ := h5.get hv
          rw [em] at ht
          cases ht
          rw [eg]
          exact ⟨_, hv, y⟩
        have hcm : commandB (p.ms.getD (ixOf p.called z) .non) p.ns = true := by
          rw [eg]
          exact G.cmds _ (List.mem_of_getElem? em)
        refine iteF ⟨_, rfl, a, _, 1, _, rfl, rfl, ssqt s2 h1, at_of (j := 1) rfl rfl, _, rfl, m, _, _, _, rfl, rfl, ssqt s2 h4, atI_nat hcv, _, rfl, _, rfl, cv, _, l, r, p.ns, room, rfl, cx.same s2, hcm, s2.seq hl, ssqt s2 hroom, by omega, fun H3 s3 => q H3 (s2.trans s3)⟩
    · obtain ⟨z, sg, c2, rfl, hz, hs, hc⟩ := test_cases ht
      obtain ⟨b, v0, v1, v2, rfl, hb2, _⟩ := tup3 y
      rw [askV_test] at q
      refine ⟨_, rfl, .inr ⟨b, _, rfl, .inr hb2, rfl, _, rfl, ?_⟩⟩
      exact iteT ⟨_, rfl, _, rfl, _, rfl, .ref b, _, l, r, p.ns, room, rfl, y, ht, hl, hroom, by omega, q H (Same.refl _)⟩
def spNI (K : PySem.W.Frag) : Sp := fun vs H Q _ => ∃ (a r : Addr) (p : Pg) (room : Rm), vs = [.ref a, .ref r] ∧ PgAt K H a p ∧ GoodPg p ∧ SqT K H r (room.map V.int) ∧ RmOk p room ∧ ∀ H' c ys, Same H H' → H' c = some (.tup (ys.map V.str)) → ys.Perm (wornV p room) → RiseS ys → Q (.ref c) H'
theorem worn_nodup {p : Pg} (G : GoodPg p) {r : Rm} : (wornV p r).Nodup := (G.kn).sublist (List.filter_sublist.map fstS)
theorem worn_good {p : Pg} (G : GoodPg p) {r : Rm} : ∀ z ∈ wornV p r, GoodName z := by
  intro z hz
  obtain ⟨t, ht, rfl⟩ := List.mem_map.mp hz
  obtain ⟨z, rows, rfl, hn, _⟩ := mark_cases (G.marks t (List.mem_filter.mp ht).1)
  exact nameB_good hn
theorem worn_len {p : Pg} (G : GoodPg p) {r : Rm} : (wornV p r).length ≤ 8 := by
  have := G.k8
  have h := List.length_filter_le (markV p r) p.ks
  unfold wornV
  rw [List.length_map]
  omega
theorem worn_take {p : Pg} {r : Rm} {i : Nat} {t : Th} (h : p.ks[i]? = some t) : ((p.ks.take (i + 1)).filter (markV p r)).map fstS = ((p.ks.take i).filter (markV p r)).map fstS ++ (if markV p r t = true then [fstS t] else []) := by
  rw [List.take_add_one, h, List.filter_append, List.map_append]
  congr 1
  show (List.filter (markV p r) [t]).map fstS = _
  rw [List.filter_cons, List.filter_nil]
  split <;> rfl
theorem sorted_of {p : Pg} (G : GoodPg p) {r : Rm} {ys : List Str} (hp : ys.Perm (wornV p r)) (hs : sortedS ys = true) : RiseS ys :=
  sorted_rise hs (hp.nodup_iff.mpr (worn_nodup G)) fun z hz => worn_good G z (hp.subset hz)
theorem ok_ni {f : Addr} {fd : FuncData} (F : Fun K "names_in" "names_in" snames_in f fd) (T : Bi mg) (cask_holds : Cal P w K mg base 4 "ask_holds" ["program", "ask", "names", "room"] (spAV K)) : FnOk P w K mg base CX0 5 f fd ["program", "room"] (spNI K) := by
  refine F.ok scnames_in (fun vs H Q E h => ?_) (fun cdv A outer s H vs Q E hr h => ?_)
  · obtain ⟨a, r, p, room, rfl, _⟩ := h
    rfl
  · obtain ⟨a, r, p, room, rfl, x, G, hroom, R, q⟩ := h
    obtain ⟨c, m, kk, xc, xm, xk, h1, h2, h3, h4, h5, h6, h7⟩ := x.ex
    have lc := h3.len
    have c4 := G.c4
    have k8 := G.k8
    have lk := h7.len
    refine ⟨_, (pss_cons (ps_set (i := 2) scnames_in.nd rfl (.inr rfl) (pe_lc (own := [("cell", 6)]) (g := gName 6) rfl scnames_in.nd (pi_tup (pe_ix ix_tup (pv 0) pe_int (fun _ _ => rfl))) (blkOk_by (own := [("cell", 6)]) (N := ["program", "room", "names", "found", "name", "rows", "cell", "row", "ask"]) (sc := defScope snames_in) (by decide +kernel)) (fun _ _ _ _ _ => (pg_name (i := 6) scnames_in.nd rfl (.inl rfl))) (fun _ _ _ _ _ => pts_nil) (fun _ _ _ _ _ => (pe_ix (ixT K) (pv 6) pe_int (fun _ _ => rfl)))))
      (pss_cons (ps_set (i := 3) scnames_in.nd rfl (.inl rfl) (pe_lst pa_nil))
      (pss_cons (ps_for PassesOwn.never rfl (pi_tup (pe_ix ix_tup (pv 0) pe_int (fun _ _ => rfl))) (pg_tup rfl (pgs_cons (pg_name (i := 4) scnames_in.nd rfl (.inl rfl)) (pgs_cons (pg_name (i := 5) scnames_in.nd rfl (.inl rfl)) pgs_nil)))
        (pss_one (ps_if (pt_val (pe_callB (cr_any rfl) (by rfl) T.any (by decide +kernel) (pa_cons (pe_lc (own := [("row", 7)]) (g := gName 7) rfl scnames_in.nd (pi_tup (pv 5)) (blkOk_by (own := [("row", 7)]) (N := ["program", "room", "names", "found", "name", "rows", "cell", "row", "ask"]) (sc := defScope snames_in) (by decide +kernel)) (fun _ _ _ _ _ => (pg_name (i := 7) scnames_in.nd rfl (.inl rfl))) (fun _ _ _ _ _ => pts_nil) (fun _ _ _ _ _ => (pe_callB (SQX.crAllK K rfl) (by rfl) T.all (by decide +kernel) (pa_cons (pe_lc (own := [("ask", 8)]) (g := gName 8) rfl scnames_in.nd (SQX.piTK K (pv 7)) (blkOk_by (own := [("ask", 8)]) (N := ["program", "room", "names", "found", "name", "rows", "cell", "row", "ask"]) (sc := scN_names_in) (by decide +kernel)) (fun _ _ _ _ _ => (pg_name (i := 8) scnames_in.nd rfl (.inl rfl))) (fun _ _ _ _ _ => pts_nil) (fun _ _ _ _ _ => (pe_call cask_holds.G hr (by rfl) cask_holds.g cask_holds.kp cask_holds.b .nil pass0 (pa_cons (pv 0) (pa_cons (pv 8) (pa_cons (pv 2) (pa_cons (pv 1) pa_nil))))))) pa_nil)))) pa_nil)))
          (pss_one (ps_expr (pe_bm PySem.F.plainAttrs_list PySem.F.slot_list_append PySem.F.type_list_append mt_append (pv 3) (pa_cons (pv 4) pa_nil))))
          pss_nil)))
      (pss_one (ps_ret (pe_callTy call_tuple_of (by rfl) T.tuple (by decide +kernel) (pa_cons (pe_callB cr_sortedS (by rfl) T.sorted (by decide +kernel) (pa_cons (pv 3) pa_nil)) pa_nil))))))), ?_⟩
    refine ⟨_, rfl, a, _, 0, _, rfl, rfl, h1, at_of (j := 0) rfl rfl, c, rfl, ⟨_, h2⟩, fun D hD => lc_thT (fun t => .str (fstS t)) h2 h3 hD (by omega) (fun _ => rfl) (fun v t H' mt y s1 N1 N2 k1 => ?_) (fun H2 s2 hD2 => ?_)⟩
    · obtain ⟨z, rr, rfl⟩ := (named G).1 t mt
      obtain ⟨b, ys, rfl, hb, _, all2⟩ := tupL y
      cases all2 with
      | cons w0 w1 =>
        cases w0
        exact ⟨_, rfl, b, _, 0, _, rfl, rfl, hb, at_of (j := 0) rfl rfl, k1 _ (Same.refl _)⟩
    have hD2 : H2 D = some (.lst (p.ns.map V.str)) := by
      rw [hD2]
      unfold Pg.ns
      rw [List.map_map]
      rfl
    refine ⟨Nat.zero_le _, fun L hL => ?_⟩
    have s3 := same_upd (o := .lst []) hL
    have hL0 : H L = none := by
      cases e : H L with
      | none => rfl
      | some o => exact nomatch hL.symm.trans (s2 _ _ e)
    have nLD : L ≠ D := (ne_of_none hD2 hL).symm
    have hL3 : (L2.upd H2 L (.lst [])) L = some (.lst []) := upd_same
    have hD3 := s3 _ _ hD2
    have s23 := s2.trans s3
    generalize (L2.upd H2 L (.lst [])) = H3 at s3 hL3 hD3 s23
    refine ⟨_, rfl, a, _, 2, _, rfl, rfl, ssqt s23 h1, at_of (j := 2) rfl rfl, kk, rfl, ⟨_, ssqt s23 h6⟩, for_tup (K := K) (a := kk) (xs := xk) (fun i σ H' => ∃ (y4 y5 : Option V), σ = [some (.ref a), some (.ref r), some (.ref D), some (.ref L), y4, y5, none, none, none] ∧ Same H H' ∧ H' D = some (.lst (p.ns.map V.str)) ∧ H' L = some (.lst ((((p.ks.take i).filter (markV p room)).map fstS).map V.str)))
      ⟨_, _, rfl, s23, hD3, hL3⟩ (fun i σ H' _ ⟨_, _, _, e, _⟩ => ssqt e h6) ?_ ?_⟩
    · rintro i v σ H4 hi ⟨y4, y5, rfl, s4, d4, l4⟩
      obtain ⟨t, ht, y⟩ := h7.get hi
      obtain ⟨z, rows, rfl, hn, lr, hrows⟩ := mark_cases (G.marks t (List.mem_of_getElem? ht))
      obtain ⟨b, v0, v1, rfl, hb, z0, z1⟩ := tup2 (y.same s4)
      cases z0
      obtain ⟨ra, rx, rfl, hra, _, rall⟩ := tupL z1
      have lrx := rall.len
      have ew := worn_take (p := p) (r := room) ht
      refine ⟨b, _, rfl, hb, rfl, _, _, rfl, _, _, rfl, rfl, ?_⟩
      refine ⟨_, rfl, ra, rfl, ⟨_, hra⟩, fun D2 hD2 => lc_thT (fun t => .bl (rowV p room t)) hra rall hD2 (by omega) (fun _ => rfl) (fun v t H5 mt y s5 N1 N2 k1 => ?_) (fun H5 s5 hD5 => ?_)⟩
      · obtain ⟨as, rfl, la, hasks⟩ := askRow_cases (hrows t mt)
        obtain ⟨aa, ax, rfl, haa, _, aall⟩ := tupL y
        have lax := aall.len
        have s45 := s4.trans s5
        refine ⟨_, rfl, aa, rfl, ⟨_, haa⟩, fun D3 hD3 => lc_thT (fun t => .bl (askV p room t)) haa aall hD3 (by omega) (fun _ => rfl) (fun v t H6 mt y s6 N1 N2 k1 => ?_) (fun H6 s6 hD6 => ?_)⟩
        · have s46 := s45.trans s6
          exact ⟨_, rfl, _, rfl, _, rfl, _, rfl, a, D, r, v, p, t, room, rfl, x.same s46, G, y, hasks t mt, SqL.of (s6 _ _ (s5 _ _ d4)), ssqt s46 hroom, R, fun H7 s7 => k1 H7 s7⟩
        · rw [all_bl (askV p room)] at hD6
          refine ⟨D3, _, rfl, SqL.of hD6, ?_⟩
          rw [all_id (askV p room)]
          exact k1 H6 s6
      · rw [all_bl (rowV p room)] at hD5
        refine ⟨D2, _, rfl, SqL.of hD5, _, rfl, ?_⟩
        have eany : (rows.map (rowV p room)).any id = markV p room (.tup [.str z, .tup rows]) := by
          rw [List.any_map]
          rfl
        rw [eany]
        have l5 := s5 _ _ l4
        have d5 := s5 _ _ d4
        have s45 := s4.trans s5
        cases hm : markV p room (.tup [.str z, .tup rows]) with
        | false =>
          rw [hm, if_neg (by decide), List.append_nil] at ew
          exact iteF ⟨_, _, rfl, s45, d5, by rw [ew]; exact l5⟩
        | true =>
          rw [hm, if_pos rfl] at ew
          have hi8 : i < 8 := by
            have := (List.getElem?_eq_some_iff.mp ht).1
            omega
          refine iteT ⟨_, rfl, .inl ⟨rfl, _, SqL.of l5⟩, _, rfl, L, _, _, rfl, rfl, l5, szLt (by have := List.length_filter_le (markV p room) (p.ks.take i); rw [List.length_take] at this; rw [List.length_map, List.length_map]; omega), ?_⟩
          refine ⟨_, _, rfl, smut s45 hL0, by rw [upd_ne nLD.symm]; exact d5, ?_⟩
          rw [upd_same, ew, List.map_append]
          rfl
    · rintro σ H4 ⟨y4, y5, rfl, s4, d4, l4⟩
      rw [lk, List.take_length] at l4
      have l4 : H4 L = some (.lst ((wornV p room).map V.str)) := l4
      have wl := worn_len G (r := room)
      refine ⟨_, rfl, L, _, rfl, SqL.of l4, by omega, fun ys q1 hp hs hq => ?_⟩
      have s5 := same_upd (o := .lst (ys.map V.str)) hq
      refine ⟨q1, _, rfl, .inl ⟨SqL.of upd_same, fun u hu => ?_⟩⟩
      exact q _ u ys ((s4.trans s5).trans (same_upd hu)) upd_same hp (sorted_of G hp hs)
end

abbrev s_law_row_holds : Stmt := topS 38
theorem sc_law_row_holds : FnScope ["_law_program_here", "_law_row", "_law_room", "_law_names_here", "_law_called", "_law_ask_here"] ["_law_program_here", "_law_row", "_law_room"] (defScope s_law_row_holds) := ⟨rfl, rfl, rfl, by decide +kernel, rfl, by decide +kernel, by decide +kernel⟩
abbrev s_law_worn : Stmt := topS 39
theorem sc_law_worn : FnScope ["_law_program_here", "_law_room", "_law_found", "_law_name_here", "_law_rows", "_law_row"] ["_law_program_here", "_law_room"] (defScope s_law_worn) := ⟨rfl, rfl, rfl, by decide +kernel, rfl, by decide +kernel, by decide +kernel⟩
section
variable {P : Program} {w : World} {K : PySem.W.Frag} {mg : Str → Option Value} {base : Heap}
theorem rowV_drop {p : Pg} {r : Rm} {as : List Th} {i : Nat} {t : Th} (h : as[i]? = some t) (e : as.all (askV p r) = (as.drop i).all (askV p r)) : as.all (askV p r) = (askV p r t && (as.drop (i + 1)).all (askV p r)) := by
  obtain ⟨hi, rfl⟩ := List.getElem?_eq_some_iff.mp h
  rw [List.drop_eq_getElem_cons hi, List.all_cons] at e
  exact e
def spRH (K : PySem.W.Frag) : Sp := fun vs H Q _ => ∃ (a r : Addr) (v : V) (p : Pg) (t : Th) (room : Rm), vs = [.ref a, v, .ref r] ∧ PgAt K H a p ∧ GoodPg p ∧ TAt 10 K H v t ∧ askRowB t p.ns p.called p.keeps = true ∧ SqT K H r (room.map V.int) ∧ RmOk p room ∧ ∀ H', Same H H' → Q (.bl (rowV p room t)) H'
theorem ok_rh {f : Addr} {fd : FuncData} (F : Fun K "_law_row_holds" "_law_row_holds" s_law_row_holds f fd) (T : Bi mg) (c_law_names_of : Cal P w K mg base 1 "_law_names_of" ["_law_rows"] (spNO K)) (c_law_all_hold : Cal P w K mg base 2 "_law_all_hold" ["_law_tests", "_law_names_here", "_law_room"] (spAH K)) :
    FnOk P w K mg base CX0 3 f fd ["_law_program_here", "_law_row", "_law_room"] (spRH K) := by
  refine F.ok sc_law_row_holds (fun vs H Q E h => ?_) (fun cdv A outer s H vs Q E hr h => ?_)
  · obtain ⟨a, r, v, p, t, room, rfl, _⟩ := h
    rfl
  · obtain ⟨a, r, v, p, t, room, rfl, x, G, y, hb, hroom, R, q⟩ := h
    obtain ⟨c, m, kk, xc, xm, xk, h1, h2, h3, h4, h5, h6, h7⟩ := x.ex
    have lc := h3.len
    have c4 := G.c4
    have lm := h5.len
    have m8 := G.m8
    have nl := ns_len p
    have cl := called_len p
    have rl := R.len
    obtain ⟨as, rfl, la, hasks⟩ := askRow_cases hb
    obtain ⟨aa, ax, rfl, haa, _, aall⟩ := tupL y
    have q : ∀ H', Same H H' → Q (.bl (as.all (askV p room))) H' := q
    refine ⟨_, (pss_cons (ps_set (i := 3) sc_law_row_holds.nd rfl (.inl rfl) (pe_call c_law_names_of.G (hr.mono (by decide)) (by rfl) c_law_names_of.g c_law_names_of.kp c_law_names_of.b .nil pass0 (pa_cons (pe_ix ix_tup (pv 0) pe_int (fun _ _ => rfl)) pa_nil)))
      (pss_cons (ps_set (i := 4) sc_law_row_holds.nd rfl (.inl rfl) (pe_call c_law_names_of.G (hr.mono (by decide)) (by rfl) c_law_names_of.g c_law_names_of.kp c_law_names_of.b .nil pass0 (pa_cons (pe_ix ix_tup (pv 0) pe_int (fun _ _ => rfl)) pa_nil)))
      (pss_cons (ps_for PassesOwn.never rfl (pi_tup (pv 1)) (pg_name (i := 5) sc_law_row_holds.nd rfl (.inl rfl))
        (pss_one (ps_if (pt_cmpR op_eq (pe_callB call_lenX (by rfl) T.len PySem.boot_len (pa_cons (pv 5) pa_nil)) pe_int (nomark _))
          (pss_one (ps_if (pt_not (pt_val (pe_call c_law_all_hold.G hr (by rfl) c_law_all_hold.g c_law_all_hold.kp c_law_all_hold.b .nil pass0 (pa_cons (pe_lst (pa_cons (pv 5) pa_nil)) (pa_cons (pv 3) (pa_cons (pv 2) pa_nil))))))
            (pss_one (ps_ret pe_bl))
            pss_nil))
          (pss_one (ps_if (pt_cmpR op_eq (pe_ix ix_tup (pv 5) pe_int (fun _ _ => rfl)) pe_str (nomark _))
            (pss_one (ps_if (pt_not (pt_val (pe_call c_law_all_hold.G hr (by rfl) c_law_all_hold.g c_law_all_hold.kp c_law_all_hold.b .nil pass0 (pa_cons (pe_ix ix_tup (pe_ix ix_tup (pe_ix ix_tup (pv 0) pe_int (fun _ _ => rfl)) (pe_bm PySem.F.plainAttrs_list PySem.F.slot_list_index PySem.F.type_list_index mt_index (pv 4) (pa_cons (pe_ix ix_tup (pv 5) pe_int (fun _ _ => rfl)) pa_nil)) (fun _ _ => rfl)) pe_int (fun _ _ => rfl)) (pa_cons (pv 3) (pa_cons (pv 2) pa_nil))))))
              (pss_one (ps_ret pe_bl))
              pss_nil))
            (pss_one (ps_if (pt_cmpR op_ne (pe_ix ix_tup (pv 2) (pe_callB call_len_seq (by rfl) T.len PySem.boot_len (pa_cons (pv 3) pa_nil)) (fun _ _ => rfl)) (pe_bm PySem.F.plainAttrs_list PySem.F.slot_list_index PySem.F.type_list_index mt_index (pv 4) (pa_cons (pe_ix ix_tup (pv 5) pe_int (fun _ _ => rfl)) pa_nil)) (nomark _))
              (pss_one (ps_ret pe_bl))
              pss_nil)))))))
      (pss_one (ps_ret pe_bl))))), ?_⟩
    refine ⟨_, rfl, a, _, 0, _, rfl, rfl, h1, at_of (j := 0) rfl rfl, c, xc, p.cs, rfl, h2, h3, by omega, (named G).1, fun H2 D s2 hD2 => ?_⟩
    have hD2 : H2 D = some (.lst (p.ns.map V.str)) := hD2
    refine ⟨_, rfl, a, _, 1, _, rfl, rfl, ssqt s2 h1, at_of (j := 1) rfl rfl, m, xm, p.ms, rfl, ssqt s2 h4, TAll.samex s2 h5, by omega, (named G).2, fun H3 L s3 hL3 => ?_⟩
    have hL3 : H3 L = some (.lst (p.called.map V.str)) := hL3
    have hD3 := s3 _ _ hD2
    have s23 := s2.trans s3
    refine ⟨_, rfl, aa, rfl, ⟨_, ssqt s23 haa⟩, for_tup (K := K) (a := aa) (xs := ax) (fun i σ H' => ∃ (y5 : Option V), σ = [some (.ref a), some (.ref aa), some (.ref r), some (.ref D), some (.ref L), y5] ∧ Same H H' ∧ H' D = some (.lst (p.ns.map V.str)) ∧ H' L = some (.lst (p.called.map V.str)) ∧ as.all (askV p room) = (as.drop i).all (askV p room))
      ⟨_, rfl, s23, hD3, hL3, rfl⟩ (fun i σ H' _ ⟨_, _, e, _⟩ => ssqt e haa) ?_ ?_⟩
    · rintro i v σ H4 hi ⟨y5, rfl, s4, d4, l4, e⟩
      obtain ⟨t, ht, y⟩ := aall.get hi
      have e := rowV_drop ht e
      have y := y.same s4
      rcases ask_cases (hasks t (List.mem_of_getElem? ht)) with ⟨sx, z, rfl, hx, hz, hk⟩ | htt
      · obtain ⟨b, v0, v1, rfl, hb2, z0, z1⟩ := tup2 y
        cases z0
        cases z1
        refine ⟨_, rfl, .inr ⟨b, _, rfl, .inr hb2, rfl, _, rfl, ?_⟩⟩
        refine iteF ?_
        refine ⟨_, rfl, b, _, 0, _, rfl, rfl, hb2, at_of (j := 0) rfl rfl, rfl, _, rfl, ?_⟩
        obtain ⟨g1, g2⟩ := ix_str hz
        have hj := ix_lt hz
        rw [cl] at hj
        rw [dec_str]
        rw [askV_two] at e
        by_cases ec : sx = lastS
        · rw [if_pos ec] at e
          rw [decide_eq_false (show sx ≠ Str.ofString "can" from fun h => absurd (ec.symm.trans h) (by decide +kernel))]
          have hk2 : p.keeps = true := by
            rcases hk with h | h
            · exact h
            · exact absurd (ec.symm.trans h) (by decide +kernel)
          obtain ⟨_, g3⟩ := last_get R hk2
          have ll : ((p.ns.map V.str).length : Nat) = p.cs.length := by rw [List.length_map, nl]
          refine iteF ⟨_, rfl, _, rfl, D, _, rfl, .inl (SqL.of d4), r, _, _, _, rfl, rfl, ssqt s4 hroom, by rw [ll]; exact g3, _, rfl, .inl ⟨rfl, _, SqL.of l4⟩, _, rfl, b, _, 1, _, rfl, rfl, hb2, at_of (j := 1) rfl rfl, L, _, _, _, _, rfl, rfl, SqL.of l4, rfl, flat_str _, g1, beq_self_eq_true _, g2, rfl, _, rfl, ?_⟩
          rw [dec_int]
          by_cases he : room.getD p.cs.length 0 = ((ixOf p.called z : Nat) : Int)
          · rw [decide_eq_true he, Bool.true_and] at e
            rw [decide_eq_true he]
            exact iteF ⟨_, rfl, s4, d4, l4, e⟩
          · rw [decide_eq_false he, Bool.false_and] at e
            rw [decide_eq_false he]
            have q := q H4 s4
            rw [e] at q
            exact iteT q
        · rw [if_neg ec] at e
          have hcan : sx = Str.ofString "can" := by
            simp only [asksL, List.mem_cons, List.not_mem_nil, or_false] at hx
            rcases hx with h | h
            · exact h
            · exact absurd h ec
          rw [decide_eq_true hcan]
          obtain ⟨cz, ts, ss, em, eg, _, _, hts, _⟩ := cmd_at G hj
          obtain ⟨cv, hcv, cx⟩ : ∃ v, xm[ixOf p.called z]? = some v ∧ TAt 10 K H4 v (.tup [.str cz, .tup ts, .tup ss]) := by
            have hl : ixOf p.called z < xm.length := by omega
            have hv : xm[ixOf p.called z]? = some xm[ixOf p.called z] := List.getElem?_eq_getElem hl
            obtain ⟨t, ht, y⟩ := h5.get hv
            rw [em] at ht
            cases ht
            exact ⟨_, hv, y.same s4⟩
          obtain ⟨ca, w0, w1, w2, rfl, hca, _, wy1, _⟩ := tup3 cx
          obtain ⟨ta, tx, rfl, hta, _, tall⟩ := tupL wy1
          have ecome : comeB p.ns room (p.ms.getD (ixOf p.called z) .non) = ts.all (testV p.ns room) := by
            rw [eg]
            rfl
          rw [ecome] at e
          refine iteT ⟨_, rfl, a, _, 1, _, rfl, rfl, ssqt s4 h1, at_of (j := 1) rfl rfl, _, rfl, .inl ⟨rfl, _, SqL.of l4⟩, _, rfl, b, _, 1, _, rfl, rfl, hb2, at_of (j := 1) rfl rfl, L, _, _, _, _, rfl, rfl, SqL.of l4, rfl, flat_str _, g1, beq_self_eq_true _, g2, m, _, _, _, rfl, rfl, ssqt s4 h4, atI_nat hcv, ca, _, 1, _, rfl, rfl, hca, at_of (j := 1) rfl rfl, _, rfl, _, rfl, ta, D, r, tx, ts, p.ns, room, rfl, .inl hta, tall, hts, SqL.of d4, ssqt s4 hroom, by omega, _, rfl, ?_⟩
          cases he : ts.all (testV p.ns room) with
          | true =>
            rw [he, Bool.true_and] at e
            exact iteF ⟨_, rfl, s4, d4, l4, e⟩
          | false =>
            rw [he, Bool.false_and] at e
            have q := q H4 s4
            rw [e] at q
            exact iteT q
      · obtain ⟨z, sg, c2, rfl, hz, hs, hc⟩ := test_cases htt
        obtain ⟨b, v0, v1, v2, rfl, hb2, _⟩ := tup3 y
        rw [askV_test] at e
        refine ⟨_, rfl, .inr ⟨b, _, rfl, .inr hb2, rfl, _, rfl, ?_⟩⟩
        refine iteT ⟨_, rfl, by show 1 ≤ sizeLine; decide, fun g hg => ?_⟩
        have s5 := same_upd (o := .lst [.ref b]) hg
        refine ⟨_, rfl, _, rfl, g, D, r, [.ref b], [.tup [.str z, .str sg, c2]], p.ns, room, rfl, .inr (SqL.of upd_same), .cons (y.same s5) .nil, fun t h => by rw [List.mem_singleton.mp h]; exact htt, SqL.of (s5 _ _ d4), ssqt (s4.trans s5) hroom, by omega, _, rfl, ?_⟩
        rw [show [Th.tup [.str z, .str sg, c2]].all (testV p.ns room) = testV p.ns room (.tup [.str z, .str sg, c2]) by rw [List.all_cons, List.all_nil, Bool.and_true]]
        cases he : testV p.ns room (.tup [.str z, .str sg, c2]) with
        | true =>
          rw [he, Bool.true_and] at e
          exact iteF ⟨_, rfl, s4.trans s5, s5 _ _ d4, s5 _ _ l4, e⟩
        | false =>
          rw [he, Bool.false_and] at e
          have q := q _ (s4.trans s5)
          rw [e] at q
          exact iteT q
    · rintro σ H4 ⟨y5, rfl, s4, d4, l4, e⟩
      rw [aall.len, List.drop_length] at e
      have q := q H4 s4
      rw [e] at q
      exact q
theorem ok_worn {f : Addr} {fd : FuncData} (F : Fun K "_law_worn" "_law_worn" s_law_worn f fd) (T : Bi mg) (c_law_row_holds : Cal P w K mg base 3 "_law_row_holds" ["_law_program_here", "_law_row", "_law_room"] (spRH K)) : FnOk P w K mg base CX0 4 f fd ["_law_program_here", "_law_room"] (spNI K) := by
  refine F.ok sc_law_worn (fun vs H Q E h => ?_) (fun cdv A outer s H vs Q E hr h => ?_)
  · obtain ⟨a, r, p, room, rfl, _⟩ := h
    rfl
  · obtain ⟨a, r, p, room, rfl, x, G, hroom, R, q⟩ := h
    obtain ⟨c, m, kk, xc, xm, xk, h1, h2, h3, h4, h5, h6, h7⟩ := x.ex
    have k8 := G.k8
    have lk := h7.len
    refine ⟨_, (pss_cons (ps_set (i := 2) sc_law_worn.nd rfl (.inl rfl) (pe_lst pa_nil))
      (pss_cons (ps_for PassesOwn.never rfl (pi_tup (pe_ix ix_tup (pv 0) pe_int (fun _ _ => rfl))) (pg_tup rfl (pgs_cons (pg_name (i := 3) sc_law_worn.nd rfl (.inl rfl)) (pgs_cons (pg_name (i := 4) sc_law_worn.nd rfl (.inl rfl)) pgs_nil)))
        (pss_one (ps_for PassesOwn.never rfl (pi_tup (pv 4)) (pg_name (i := 5) sc_law_worn.nd rfl (.inl rfl))
          (pss_one (ps_if (PW.pt (pw_and (pt_cmpR op_notIn_seq (pv 3) (pv 2) (by rfl)) (pw_and1 (pt_val (pe_call c_law_row_holds.G hr (by rfl) c_law_row_holds.g c_law_row_holds.kp c_law_row_holds.b .nil pass0 (pa_cons (pv 0) (pa_cons (pv 5) (pa_cons (pv 1) pa_nil))))))))
            (pss_one (ps_expr (pe_bm PySem.F.plainAttrs_list PySem.F.slot_list_append PySem.F.type_list_append mt_append (pv 2) (pa_cons (pv 3) pa_nil))))
            pss_nil)))))
      (pss_one (ps_ret (pe_callTy call_tuple_of (by rfl) T.tuple (by decide +kernel) (pa_cons (pe_callB cr_sortedS (by rfl) T.sorted (by decide +kernel) (pa_cons (pv 2) pa_nil)) pa_nil)))))), ?_⟩
    refine ⟨Nat.zero_le _, fun L hL => ?_⟩
    have s3 := same_upd (o := .lst []) hL
    have hL3 : (L2.upd H L (.lst [])) L = some (.lst []) := upd_same
    generalize (L2.upd H L (.lst [])) = H3 at s3 hL3
    refine ⟨_, rfl, a, _, 2, _, rfl, rfl, ssqt s3 h1, at_of (j := 2) rfl rfl, kk, rfl, ⟨_, ssqt s3 h6⟩, for_tup (K := K) (a := kk) (xs := xk) (fun i σ H' => ∃ (y3 y4 y5 : Option V), σ = [some (.ref a), some (.ref r), some (.ref L), y3, y4, y5] ∧ Same H H' ∧ H' L = some (.lst ((((p.ks.take i).filter (markV p room)).map fstS).map V.str)))
      ⟨_, _, _, rfl, s3, hL3⟩ (fun i σ H' _ ⟨_, _, _, _, e, _⟩ => ssqt e h6) ?_ ?_⟩
    · rintro i v σ H4 hi ⟨y3, y4, y5, rfl, s4, l4⟩
      obtain ⟨t, ht, y⟩ := h7.get hi
      obtain ⟨z, rows, rfl, hn, lr, hrows⟩ := mark_cases (G.marks t (List.mem_of_getElem? ht))
      obtain ⟨b, v0, v1, rfl, hb, z0, z1⟩ := tup2 y
      cases z0
      obtain ⟨ra, rx, rfl, hra, _, rall⟩ := tupL z1
      have lrx := rall.len
      have ew := worn_take (p := p) (r := room) ht
      have hi8 : i < 8 := by
        have := (List.getElem?_eq_some_iff.mp ht).1
        omega
      have hnot : z ∉ ((p.ks.take i).filter (markV p room)).map fstS := by
        intro hz
        obtain ⟨t2, ht2, e2⟩ := List.mem_map.mp hz
        obtain ⟨j, hj⟩ := List.mem_iff_getElem?.mp (List.mem_filter.mp ht2).1
        rw [List.getElem?_take] at hj
        split at hj
        · rename_i hji
          have a1 : (p.ks.map fstS)[j]? = some z := by rw [List.getElem?_map, hj, ← e2]; rfl
          have a2 : (p.ks.map fstS)[i]? = some z := by rw [List.getElem?_map, ht]; rfl
          have := (List.getElem?_inj (List.getElem?_eq_some_iff.mp a1).1 G.kn).mp (a1.trans a2.symm)
          omega
        · cases hj
      have ll : (((p.ks.take i).filter (markV p room)).map fstS).length ≤ 8 := by
        have := List.length_filter_le (markV p room) (p.ks.take i)
        rw [List.length_take] at this
        rw [List.length_map]
        omega
      generalize ((p.ks.take i).filter (markV p room)).map fstS = ws at *
      refine ⟨b, _, rfl, ssqt s4 hb, rfl, _, _, rfl, _, _, rfl, rfl, ?_⟩
      refine ⟨_, rfl, ra, rfl, ⟨_, ssqt s4 hra⟩, for_tup (K := K) (a := ra) (xs := rx) (fun j σ H' => ∃ (y5 : Option V), σ = [some (.ref a), some (.ref r), some (.ref L), some (.str z), some (.ref ra), y5] ∧ Same H H' ∧ H' L = some (.lst ((ws ++ (if (rows.take j).any (rowV p room) = true then [z] else [])).map V.str)))
        ⟨_, rfl, s4, by rw [List.take_zero, List.any_nil, if_neg (by decide), List.append_nil]; exact l4⟩ (fun j σ H' _ ⟨_, _, e, _⟩ => ssqt e hra) ?_ ?_⟩
      · rintro j v σ H5 hj ⟨y5, rfl, s5, l5⟩
        obtain ⟨u, hu, yu⟩ := rall.get hj
        have hru := hrows u (List.mem_of_getElem? hu)
        have ea : (rows.take (j + 1)).any (rowV p room) = ((rows.take j).any (rowV p room) || rowV p room u) := by
          rw [List.take_add_one, hu, List.any_append]
          show (_ || (rowV p room u || false)) = _
          rw [Bool.or_false]
        cases hany : (rows.take j).any (rowV p room) with
        | true =>
          rw [hany, if_pos rfl] at l5
          rw [hany, Bool.true_or] at ea
          refine ⟨_, rfl, _, rfl, L, _, rfl, .inl (SqL.of l5), rfl, flat_str _, _, rfl, ?_⟩
          rw [inV_str, decide_eq_true (List.mem_append_right _ (List.mem_singleton.mpr rfl))]
          exact iteF (iteF ⟨_, rfl, s5, by rw [ea, if_pos rfl]; exact l5⟩)
        | false =>
          rw [hany, if_neg (by decide), List.append_nil] at l5
          rw [hany, Bool.false_or] at ea
          refine ⟨_, rfl, _, rfl, L, _, rfl, .inl (SqL.of l5), rfl, flat_str _, _, rfl, ?_⟩
          rw [inV_str, decide_eq_false hnot]
          refine iteT ⟨_, rfl, _, rfl, _, rfl, a, r, v, p, u, room, rfl, x.same s5, G, yu.same s5, hru, ssqt s5 hroom, R, fun H6 s6 => ⟨_, rfl, ?_⟩⟩
          have l6 := s6 _ _ l5
          cases hr2 : rowV p room u with
          | false =>
            rw [hr2] at ea
            exact iteF ⟨_, rfl, s5.trans s6, by rw [ea, if_neg (by decide), List.append_nil]; exact l6⟩
          | true =>
            rw [hr2] at ea
            refine iteT ⟨_, rfl, .inl ⟨rfl, _, SqL.of l6⟩, _, rfl, L, _, _, rfl, rfl, l6, szLt (by rw [List.length_map]; omega), ?_⟩
            refine ⟨_, rfl, smut (s5.trans s6) hL, ?_⟩
            rw [upd_same, ea, if_pos rfl, List.map_append]
            rfl
      · rintro σ H5 ⟨y5, rfl, s5, l5⟩
        rw [lrx, List.take_length] at l5
        have em : rows.any (rowV p room) = markV p room (.tup [.str z, .tup rows]) := rfl
        rw [em] at l5
        exact ⟨_, _, _, rfl, s5, by rw [ew]; exact l5⟩
    · rintro σ H4 ⟨y3, y4, y5, rfl, s4, l4⟩
      rw [lk, List.take_length] at l4
      have l4 : H4 L = some (.lst ((wornV p room).map V.str)) := l4
      have wl := worn_len G (r := room)
      refine ⟨_, rfl, L, _, rfl, SqL.of l4, by omega, fun ys q1 hp hs hq => ?_⟩
      have s5 := same_upd (o := .lst (ys.map V.str)) hq
      refine ⟨q1, _, rfl, .inl ⟨SqL.of upd_same, fun u hu => ?_⟩⟩
      exact q _ u ys ((s4.trans s5).trans (same_upd hu)) upd_same hp (sorted_of G hp hs)
end

/-! ### the layout as tables -/
section
def TupS (H H' : Hp) : Prop := ∀ (b : Addr) (ys : List V), H b = some (.tup ys) → H' b = some (.tup ys)
theorem TupS.trans {H H1 H2 : Hp} (a : TupS H H1) (b : TupS H1 H2) : TupS H H2 := fun c ys h => b c ys (a c ys h)
theorem TupS.refl (H : Hp) : TupS H H := fun _ _ h => h
theorem tup_same {H H' : Hp} (s : Same H H') : TupS H H' := fun b ys h => s _ _ h
theorem tup_mut {H : Hp} {L : Addr} {o o' : HO} (h : H L = some o) (n : ∀ ys, o ≠ .tup ys) : TupS H (L2.upd H L o') := fun b ys hb => by
  rw [upd_ne (ne_of h hb (n ys)).symm]
  exact hb
theorem free0 {H H' : Hp} {a : Addr} (s : Same H H') (h : H' a = none) : H a = none := by
  cases e : H a with
  | none => rfl
  | some o => exact nomatch h.symm.trans (s _ _ e)
def rk (r : Rm) : List Key := r.map Sum.inl
theorem rk_kV (r : Rm) : (rk r).map kV = r.map V.int := by
  unfold rk
  rw [List.map_map]
  rfl
theorem rk_inj {r s : Rm} (h : rk r = rk s) : r = s := (List.map_inj_right fun _ _ e => Sum.inl.inj e).mp h
def numF : List Rm → Nat → List (List Key × V)
  | [], _ => []
  | r :: l, o => (rk r, .int (o : Nat)) :: numF l (o + 1)
theorem num_len : ∀ (l : List Rm) (o : Nat), (numF l o).length = l.length
  | [], _ => rfl
  | r :: l, o => congrArg (· + 1) (num_len l (o + 1))
theorem num_snoc (x : Rm) : ∀ (l : List Rm) (o : Nat), numF (l ++ [x]) o = numF l o ++ [(rk x, .int ((o + l.length : Nat)))]
  | [], o => rfl
  | r :: l, o => by
    show (rk r, V.int (o : Nat)) :: numF (l ++ [x]) (o + 1) = (rk r, V.int (o : Nat)) :: (numF l (o + 1) ++ [(rk x, .int ((o + (l.length + 1) : Nat)))])
    rw [num_snoc x l (o + 1), show o + 1 + l.length = o + (l.length + 1) by omega]
theorem ix_cons {α : Type} [DecidableEq α] (r : α) (l : List α) (x : α) : ixOf (r :: l) x = if r = x then 0 else ixOf l x + 1 := by
  unfold ixOf
  rw [List.findIdx_cons]
  by_cases e : r = x
  · rw [if_pos e, decide_eq_true e]
    rfl
  · rw [if_neg e, decide_eq_false e]
    rfl
theorem num_val (x : Rm) : ∀ (l : List Rm) (o : Nat), valV (numF l o) (rk x) = if x ∈ l then some (.int ((o + ixOf l x : Nat))) else none
  | [], _ => by rw [if_neg List.not_mem_nil]; rfl
  | r :: l, o => by
    show valV ((rk r, V.int (o : Nat)) :: numF l (o + 1)) (rk x) = _
    rw [ix_cons]
    by_cases e : r = x
    · rw [valV_pos (show rk r = rk x by rw [e]), if_pos e, if_pos (by rw [e]; exact List.mem_cons_self)]
      rfl
    · rw [valV_neg (fun h => e (rk_inj h)), if_neg e, num_val x l (o + 1)]
      have hm : x ∈ r :: l ↔ x ∈ l := ⟨fun h => (List.mem_cons.mp h).elim (fun h => absurd h.symm e) id, List.mem_cons_of_mem _⟩
      by_cases hx : x ∈ l
      · rw [if_pos hx, if_pos (hm.mpr hx), show o + 1 + ixOf l x = o + (ixOf l x + 1) by omega]
      · rw [if_neg hx, if_neg fun h => hx (hm.mp h)]
theorem num_put {x : Rm} {l : List Rm} (h : x ∉ l) : putK (numF l 0) (rk x) (.int ((l.length : Nat))) = numF (l ++ [x]) 0 := by
  unfold putK
  rw [valV_any, num_val, if_neg h, num_snoc, Nat.zero_add]
  rfl
def aheadK (l : List Int) : List (Key × V) := l.map fun i => (Sum.inl i, V.bl true)
theorem ahead_any (i : Int) : ∀ l : List Int, ((aheadK l).any fun kv => decide (kv.1 = Sum.inl i)) = decide (i ∈ l)
  | [] => rfl
  | j :: l => by
    show (decide ((Sum.inl j : Key) = Sum.inl i) || (aheadK l).any fun kv => decide (kv.1 = Sum.inl i)) = _
    rw [ahead_any i l, Bool.eq_iff_iff, Bool.or_eq_true, decide_eq_true_eq, decide_eq_true_eq, decide_eq_true_eq, List.mem_cons]
    exact or_congr ⟨fun h => (Sum.inl.inj h).symm, fun h => by rw [h]⟩ Iff.rfl
theorem ahead_map (k : Key) (l : List Int) : ((aheadK l).map fun kv => if kv.1 = k then (kv.1, V.bl true) else kv) = aheadK l := by
  unfold aheadK
  rw [List.map_map]
  refine List.map_congr_left fun j _ => ?_
  show (if (Sum.inl j : Key) = k then ((Sum.inl j : Key), V.bl true) else (Sum.inl j, V.bl true)) = _
  split <;> rfl
theorem ahead_put (l : List Int) (i : Int) : putK (aheadK l) (Sum.inl i) (.bl true) = aheadK (grow l i) := by
  unfold putK grow
  rw [ahead_any]
  by_cases h : i ∈ l
  · rw [if_pos h, if_pos (decide_eq_true h), ahead_map]
  · rw [if_neg h, if_neg (by rw [decide_eq_false h]; decide)]
    unfold aheadK
    rw [List.map_append]
    rfl
theorem ahead_keys (l : List Int) : (aheadK l).map (·.1) = l.map Sum.inl := by
  unfold aheadK
  rw [List.map_map]
  rfl
theorem ahead_len (l : List Int) : (aheadK l).length = l.length := List.length_map _
theorem grow_len {α : Type} [DecidableEq α] (l : List α) (x : α) : (grow l x).length ≤ l.length + 1 := by
  unfold grow
  split
  · omega
  · rw [List.length_append]
    exact Nat.le_refl _
theorem growAll_len {α : Type} [DecidableEq α] : ∀ (rs l : List α), (growAll l rs).length ≤ l.length + rs.length
  | [], l => Nat.le_refl _
  | x :: r, l => by
    have h1 := growAll_len r (grow l x)
    have h2 := grow_len l x
    show (growAll (grow l x) r).length ≤ l.length + (r.length + 1)
    omega
def ixI (W : List Rm) (x : Rm) : Int := ((ixOf W x : Nat) : Int)
/-- the numbers of the rooms behind a room -/
def StepR (p : Pg) (W : List Rm) (r : Rm) (ys : List Int) : Prop := (∀ x ∈ succV p r, x ∈ W) ∧ ys.Perm (growAll [] ((succV p r).map (ixI W))) ∧ ys.Pairwise (· ≤ ·)
theorem StepR.app {p : Pg} {W : List Rm} {r : Rm} {ys : List Int} (s : List Rm) (h : StepR p W r ys) : StepR p (W ++ s) r ys := by
  obtain ⟨h1, h2, h3⟩ := h
  refine ⟨fun x hx => List.mem_append_left _ (h1 x hx), ?_, h3⟩
  rw [show (succV p r).map (ixI (W ++ s)) = (succV p r).map (ixI W) from List.map_congr_left fun x hx => by unfold ixI; rw [ix_app (h1 x hx)]]
  exact h2
theorem succ_len (p : Pg) (r : Rm) : (succV p r).length ≤ p.ms.length := by
  have h := List.length_filterMap_le (succO p r) (List.range p.ms.length)
  rw [List.length_range] at h
  exact h
theorem rooms_take {p : Pg} {k : Nat} {r : Rm} (h : (roomsN p k)[k]? = some r) : (roomsN p (k + 1)).take (k + 1) = (roomsN p k).take k ++ [r] := by
  have hk := (List.getElem?_eq_some_iff.mp h).1
  obtain ⟨s, e⟩ := rooms_step p k
  rw [e, List.take_append_of_le_length (by omega), List.take_add_one, h]
  rfl
/-- a layout: its rooms, the numbers of the rooms behind each, and its names -/
structure LayAt (K : PySem.W.Frag) (H : Hp) (v : Addr) (p : Pg) (W : List Rm) : Prop where
  ex : ∃ (m rr s k : Addr) (rs ss ks : List Addr), H v = some (.tup [.ref m, .ref rr]) ∧ H m = some (.tup [.ref s, .ref k]) ∧ H s = some (.tup (ss.map V.ref)) ∧ H k = some (.tup (ks.map V.ref)) ∧ TIX.FzT H rr (rs.map V.ref) ∧
    Each (fun b (x : Rm) => H b = some (.tup (x.map V.int))) rs W ∧ Each (fun b (x : Rm) => ∃ ys : List Int, H b = some (.tup (ys.map V.int)) ∧ StepR p W x ys) ss W ∧
    Each (fun b (x : Rm) => ∃ zs : List Str, H b = some (.tup (zs.map V.str)) ∧ zs.Perm (wornV p x) ∧ RiseS zs) ks W
theorem LayAt.same {K : PySem.W.Frag} {H H' : Hp} {v : Addr} {p : Pg} {W : List Rm} (x : LayAt K H v p W) (e : Same H H') : LayAt K H' v p W := by
  obtain ⟨m, rr, s, k, rs, ss, ks, h1, h2, h3, h4, h5, h6, h7, h8⟩ := x.ex
  exact ⟨m, rr, s, k, rs, ss, ks, e _ _ h1, e _ _ h2, e _ _ h3, e _ _ h4, h5.same e, h6.imp fun b (x : Rm) h => e _ _ h, h7.imp fun b (x : Rm) ⟨ys, h, r⟩ => ⟨ys, e _ _ h, r⟩, h8.imp fun b (x : Rm) ⟨ys, h, r⟩ => ⟨ys, e _ _ h, r⟩⟩
end

/-! ### laid -/
abbrev slaid : Stmt := topS 13
theorem sclaid : FnScope ["program", "most", "rooms", "numbers", "steps", "ahead", "room", "marks"] ["program", "most"] (defScope slaid) := ⟨rfl, rfl, rfl, by decide +kernel, rfl, by decide +kernel, by decide +kernel⟩
section
variable {P : Program} {w : World} {K : PySem.W.Frag} {mg : Str → Option Value} {base : Heap}
def spLaid (K : PySem.W.Frag) : Sp := fun vs H Q _ => ∃ (a : Addr) (most : Nat) (p : Pg), vs = [.ref a, .int (most : Nat)] ∧ PgAt K H a p ∧ GoodPg p ∧ 1 ≤ most ∧ most ≤ 1000 ∧
  (∀ H' v n, Same H H' → (roomsN p n).length = n → n ≤ most → LayAt K H' v p (roomsN p n) → Q (.ref v) H') ∧ ∀ n, most < (roomsN p n).length → ∀ H', Same H H' → Q .non H'
structure LInv (H : Hp) (a L D S : Addr) (most : Nat) (p : Pg) (k : Nat) (σ : L2.St) (H' : Hp) : Prop where
  ex : ∃ (ra sa : List Addr) (y5 y6 : Option V), σ = [some (.ref a), some (.int (most : Nat)), some (.ref L), some (.ref D), some (.ref S), y5, y6, none] ∧ Same H H' ∧ H' L = some (.lst (ra.map V.ref)) ∧ H' D = some (.dT (numF (roomsN p k) 0)) ∧ H' S = some (.lst (sa.map V.ref)) ∧
    Each (fun b (x : Rm) => H' b = some (.tup (x.map V.int))) ra (roomsN p k) ∧ Each (fun b (x : Rm) => ∃ ys : List Int, H' b = some (.tup (ys.map V.int)) ∧ StepR p (roomsN p k) x ys) sa ((roomsN p k).take k) ∧ k ≤ (roomsN p k).length ∧ (roomsN p k).length ≤ most
structure FInv (H H5 : Hp) (a L D S A c : Addr) (bs sa : List Addr) (most : Nat) (p : Pg) (W T : List Rm) (i j : Nat) (y6 : Option V) (σ : L2.St) (H' : Hp) : Prop where
  ex : ∃ (ra : List Addr), σ = [some (.ref a), some (.int (most : Nat)), some (.ref L), some (.ref D), some (.ref S), some (.ref A), y6, none] ∧ Same H H' ∧ TupS H5 H' ∧ H' c = some (.lst (bs.map V.ref)) ∧ H' L = some (.lst (ra.map V.ref)) ∧ H' D = some (.dT (numF (growAll W (T.take i)) 0)) ∧ H' S = some (.lst (sa.map V.ref)) ∧
    H' A = some (.dK (aheadK (growAll [] ((T.take j).map (ixI (growAll W T)))))) ∧ Each (fun b (x : Rm) => H' b = some (.tup (x.map V.int))) ra (growAll W (T.take i))
theorem grow_take {T W : List Rm} {i : Nat} {x : Rm} (h : T[i]? = some x) : growAll W (T.take (i + 1)) = grow (growAll W (T.take i)) x := by
  rw [List.take_add_one, h]
  exact growAll_snoc _ _ _
theorem grow_pre (W T : List Rm) (i : Nat) : ∃ s, growAll W T = growAll W (T.take i) ++ s := by
  obtain ⟨s, e⟩ := growAll_app (T.drop i) (growAll W (T.take i))
  refine ⟨s, ?_⟩
  rw [← e]
  unfold growAll
  rw [← List.foldl_append, List.take_append_drop]
theorem ok_laid {f : Addr} {fd : FuncData} (F : Fun K "laid" "laid" slaid f fd) (T : Bi mg) (cfirst_room : Cal P w K mg base 1 "first_room" ["program"] (spFR K)) (crooms_behind : Cal P w K mg base 4 "rooms_behind" ["program", "room"] (spRS K))
    (cnames_in : Cal P w K mg base 5 "names_in" ["program", "room"] (spNI K)) : FnOk P w K mg base CX0 6 f fd ["program", "most"] (spLaid K) := by
  refine F.ok sclaid (fun vs H Q E h => ?_) (fun cdv A outer s H vs Q E hr h => ?_)
  · obtain ⟨a, most, p, rfl, _⟩ := h
    rfl
  · obtain ⟨a, most, p, rfl, x, G, m1, m40, q1, q0⟩ := h
    refine ⟨_, (pss_cons (ps_set (i := 2) sclaid.nd rfl (.inl rfl) (pe_lst (pa_cons (pe_call cfirst_room.G (hr.mono (by decide)) (by rfl) cfirst_room.g cfirst_room.kp cfirst_room.b .nil pass0 (pa_cons (pv 0) pa_nil)) pa_nil)))
      (pss_cons (ps_set (i := 3) sclaid.nd rfl (.inl rfl) (DS1.pe_disp1 (hu_of hr) (pe_ix ix_list (pv 2) pe_int (fun _ _ => rfl)) pe_int))
      (pss_cons (ps_set (i := 4) sclaid.nd rfl (.inl rfl) (pe_lst pa_nil))
      (pss_cons (ps_while PassesOwn.never (pt_cmpR op_lt (pe_callB call_len_seq (by rfl) T.len PySem.boot_len (pa_cons (pv 4) pa_nil)) (pe_callB call_len_seq (by rfl) T.len PySem.boot_len (pa_cons (pv 2) pa_nil)) (nomark _))
        (pss_cons (ps_set (i := 5) sclaid.nd rfl (.inl rfl) pe_dnewK)
        (pss_cons (ps_for PassesOwn.never rfl (pi_list (pe_call crooms_behind.G (hr.mono (by decide)) (by rfl) crooms_behind.g crooms_behind.kp crooms_behind.b .nil pass0 (pa_cons (pv 0) (pa_cons (pe_ix ix_list (pv 2) (pe_callB call_len_seq (by rfl) T.len PySem.boot_len (pa_cons (pv 4) pa_nil)) (fun _ _ => rfl)) pa_nil)))) (pg_name (i := 6) sclaid.nd rfl (.inl rfl))
          (Evl.pss_cut (ps_if (pt_cmp (pc_dnotin (hu_of hr) (pv 6) (pv 3)))
            (pss_cons (ps_dput (hu_of hr) (pv 3) (pv 6) (pe_callB call_len_seq (by rfl) T.len PySem.boot_len (pa_cons (pv 2) pa_nil)) rfl)
            (pss_one (ps_expr (pe_bm PySem.F.plainAttrs_list PySem.F.slot_list_append PySem.F.type_list_append mt_append (pv 2) (pa_cons (pv 6) pa_nil)))))
            pss_nil)
          (pss_one (ps_dput (hu_of hr) (pv 5) (pe_dget (hu_of hr) (pv 3) (pv 6) (fun _ _ => rfl)) pe_bl rfl))))
        (pss_cons (ps_if (pt_cmpR op_gt (pe_callB call_len_seq (by rfl) T.len PySem.boot_len (pa_cons (pv 2) pa_nil)) (pv 1) (nomark _))
          (pss_one (ps_ret pe_non))
          pss_nil)
        (pss_one (ps_expr (pe_bm PySem.F.plainAttrs_list PySem.F.slot_list_append PySem.F.type_list_append mt_append (pv 4) (pa_cons (pe_callTy call_tuple_of (by rfl) T.tuple (by decide +kernel) (pa_cons (pe_callB (call_sortedDI rfl) (by rfl) T.sorted (by decide +kernel) (pa_cons (pv 5) pa_nil)) pa_nil)) pa_nil))))))))
      (pss_cons (ps_set (i := 7) sclaid.nd rfl (.inl rfl) (pe_callTy call_tuple_of (by rfl) T.tuple (by decide +kernel) (pa_cons (pe_lc (own := [("room", 6)]) (g := gName 6) rfl sclaid.nd (pi_list (pv 2)) (blkOk_by (own := [("room", 6)]) (N := ["program", "most", "rooms", "numbers", "steps", "ahead", "room", "marks"]) (sc := defScope slaid) (by decide +kernel)) (fun _ _ _ _ _ => (pg_name (i := 6) sclaid.nd rfl (.inl rfl))) (fun _ _ _ _ _ => pts_nil) (fun _ _ _ _ _ => (pe_call cnames_in.G hr (by rfl) cnames_in.g cnames_in.kp cnames_in.b .nil pass0 (pa_cons (pv 0) (pa_cons (pv 6) pa_nil))))) pa_nil)))
      (pss_one (ps_ret (pe_tup (pa_cons (pe_tup (pa_cons (pe_callTy call_tuple_of (by rfl) T.tuple (by decide +kernel) (pa_cons (pv 4) pa_nil)) (pa_cons (pv 7) pa_nil))) (pa_cons (pe_callTy TIX.call_tupF (by rfl) T.tuple (by decide +kernel) (pa_cons (pv 2) pa_nil)) pa_nil)))))))))), ?_⟩
    refine ⟨_, rfl, a, p, rfl, x, G, fun H1 c s1 hc => ⟨by show 1 ≤ sizeLine; decide, fun L hL => ?_⟩⟩
    have sL := same_upd (o := .lst [.ref c]) hL
    have hL0 : H L = none := free0 s1 hL
    have s2 := s1.trans sL
    have hL2 : (L2.upd H1 L (.lst [.ref c])) L = some (.lst [.ref c]) := upd_same
    have hc2 := sL _ _ hc
    generalize (L2.upd H1 L (.lst [.ref c])) = H2 at s2 hL2 hc2
    intro D hD
    have sD := same_upd (o := .dT []) hD
    have hD0 : H D = none := free0 s2 hD
    have nLD : L ≠ D := ne_of_none hL2 hD
    have ncD : c ≠ D := ne_of_none hc2 hD
    refine ⟨_, rfl, L, _, 0, _, rfl, rfl, SqL.of (sD _ _ hL2), at_of (j := 0) rfl rfl, c, rk (firstV p), upd_same, rfl, by rw [rk_kV]; exact sD _ _ hc2, ?_⟩
    have s3 : Same H (L2.upd (L2.upd H2 D (.dT [])) D (.dT [(rk (firstV p), .int 0)])) := smut (s2.trans sD) hD0
    have hL3 : (L2.upd (L2.upd H2 D (.dT [])) D (.dT [(rk (firstV p), .int 0)])) L = some (.lst [.ref c]) := by
      rw [upd_ne nLD]
      exact sD _ _ hL2
    have hc3 : (L2.upd (L2.upd H2 D (.dT [])) D (.dT [(rk (firstV p), .int 0)])) c = some (.tup ((firstV p).map V.int)) := by
      rw [upd_ne ncD]
      exact sD _ _ hc2
    have hD3 : (L2.upd (L2.upd H2 D (.dT [])) D (.dT [(rk (firstV p), .int 0)])) D = some (.dT [(rk (firstV p), .int 0)]) := upd_same
    generalize (L2.upd (L2.upd H2 D (.dT [])) D (.dT [(rk (firstV p), .int 0)])) = H3 at s3 hL3 hc3 hD3
    refine ⟨Nat.zero_le _, fun S hS => ?_⟩
    have sS := same_upd (o := .lst []) hS
    have hS0 : H S = none := free0 s3 hS
    have nLS : L ≠ S := ne_of_none hL3 hS
    have nDS : D ≠ S := ne_of_none hD3 hS
    have hS4 : (L2.upd H3 S (.lst [])) S = some (.lst []) := upd_same
    refine ⟨fun m σ H' => ∃ k, m = most - k ∧ LInv H a L D S most p k σ H', ⟨most, 0, rfl, ⟨[c], [], _, _, rfl, s3.trans sS, sS _ _ hL3, sS _ _ hD3, hS4, .cons (sS _ _ hc3) .nil, .nil, Nat.zero_le _, m1⟩⟩, ?_⟩
    rintro m σ H4 ⟨k, rfl, I⟩
    obtain ⟨ra, sa, y5, y6, rfl, s4, l4, d4, t4, e4, f4, hk, hm⟩ := I.ex
    have lra := e4.len
    have lsa := f4.len
    rw [List.length_take] at lsa
    have lsa : sa.length = k := by omega
    refine ⟨_, rfl, S, _, rfl, .inl (SqL.of t4), _, rfl, L, _, rfl, .inl (SqL.of l4), _, _, rfl, rfl, _, rfl, ?_⟩
    rw [List.length_map, List.length_map, lra, lsa]
    by_cases hlt : k < (roomsN p k).length
    · rw [decide_eq_true (show ((k : Nat) : Int) < (((roomsN p k).length : Nat) : Int) by omega)]
      refine iteT ⟨fun σ' H' => LInv H a L D S most p (k + 1) σ' H', fun σ' H' h => ⟨most - (k + 1), by omega, k + 1, rfl, h⟩, ?_⟩
      obtain ⟨r, hr2⟩ : ∃ r, (roomsN p k)[k]? = some r := ⟨_, List.getElem?_eq_getElem hlt⟩
      have R := rooms_ok G k r (List.mem_of_getElem? hr2)
      obtain ⟨ba, hba, hbr⟩ := e4.getx hr2
      have eW := rooms_at hr2
      have eT := rooms_take hr2
      intro A hA
      have sA := same_upd (o := .dK []) hA
      have hA0 : H A = none := free0 s4 hA
      have nLA : L ≠ A := ne_of_none l4 hA
      have nDA : D ≠ A := ne_of_none d4 hA
      have nSA : S ≠ A := ne_of_none t4 hA
      have hA4 : (L2.upd H4 A (.dK [])) A = some (.dK []) := upd_same
      have s5 := s4.trans sA
      have l5 := sA _ _ l4
      have d5 := sA _ _ d4
      have t5 := sA _ _ t4
      have u5 : TupS H4 (L2.upd H4 A (.dK [])) := tup_same sA
      generalize (L2.upd H4 A (.dK [])) = H5 at s5 l5 d5 t5 u5 hA4
      have nT := succ_len p r
      have m8 := G.m8
      refine ⟨_, rfl, _, rfl, _, rfl, S, _, rfl, .inl (SqL.of t5), L, _, _, _, rfl, rfl, SqL.of l5, by rw [List.length_map, lsa]; exact atI_nat (get_map hba), a, ba, p, r, rfl, x.same s5, G, SqT.of (u5 _ _ hbr), R, fun H6 c6 bs s6 hc6 hc60 hE => ?_⟩
      have ncL : c6 ≠ L := (ne_of_none l5 hc60).symm
      have ncD : c6 ≠ D := (ne_of_none d5 hc60).symm
      have ncA : c6 ≠ A := (ne_of_none hA4 hc60).symm
      have lbs := hE.len
      have eA6 : TupS H4 H6 := u5.trans (tup_same s6)
      generalize hTT : succV p r = T at hE lbs nT eW
      generalize hWW : roomsN p k = W at *
      have lW : W.length ≤ 1000 := by omega
      refine ⟨c6, rfl, ⟨_, SqL.of hc6⟩, for_list (K := K) (a := c6) (xs := bs.map V.ref) (fun i σ H' => ∃ y6, FInv H H6 a L D S A c6 bs sa most p W T i i y6 σ H')
        ⟨_, ra, rfl, s5.trans s6, TupS.refl _, hc6, s6 _ _ l5, by rw [List.take_zero]; exact s6 _ _ d5, s6 _ _ t5, by rw [List.take_zero]; exact s6 _ _ hA4, by rw [List.take_zero]; exact e4.imp fun b (x : Rm) h => eA6 _ _ h⟩ (fun i σ H' _ ⟨_, I⟩ => ?_) ?_ ?_⟩
      · obtain ⟨_, _, _, _, c7, _⟩ := I.ex
        exact SqL.of c7
      · rintro i v σ H7 hi ⟨y6, I⟩
        obtain ⟨ra2, rfl, s7, u7, c7, l7, d7, t7, a7, e7⟩ := I.ex
        obtain ⟨b, hb, rfl⟩ := map_get hi
        obtain ⟨r2, hT, hbb⟩ := hE.get hb
        have hiT := (List.getElem?_eq_some_iff.mp hT).1
        have hk6 : H6 b = some (.tup ((rk r2).map kV)) := by rw [rk_kV]; exact hbb
        have hk7 := u7 _ _ hk6
        have hg := grow_take (W := W) hT
        have lg := growAll_len (T.take i) W
        rw [List.length_take] at lg
        have lr2 := e7.len
        have nLA := nLA
        refine ⟨fun σ' H' => FInv H H6 a L D S A c6 bs sa most p W T (i + 1) i (some (.ref b)) σ' H', ?_, ?_⟩
        · refine ⟨_, rfl, _, rfl, D, _, rfl, DGet.t d7 hk7, _, rfl, ?_⟩
          rw [num_val]
          by_cases hx : r2 ∈ growAll W (T.take i)
          · rw [if_pos hx]
            have hg : growAll W (T.take (i + 1)) = growAll W (T.take i) := hg.trans (if_pos hx)
            exact iteF ⟨ra2, rfl, s7, u7, c7, l7, by rw [hg]; exact d7, t7, a7, by rw [hg]; exact e7⟩
          · rw [if_neg hx]
            have hg : growAll W (T.take (i + 1)) = growAll W (T.take i) ++ [r2] := hg.trans (if_neg hx)
            refine iteT ⟨_, rfl, L, _, rfl, .inl (SqL.of l7), _, rfl, _, rfl, D, _, rfl, DPut.t d7 hk7 (szLt (by rw [num_len]; omega)), ?_⟩
            rw [List.length_map, lr2, num_put hx]
            have nt8 : TupS H7 (L2.upd H7 D (.dT (numF (growAll W (T.take i) ++ [r2]) 0))) := tup_mut d7 fun _ z => by cases z
            have l8 : (L2.upd H7 D (.dT (numF (growAll W (T.take i) ++ [r2]) 0))) L = some (.lst (ra2.map V.ref)) := by rw [upd_ne nLD]; exact l7
            have c8 : (L2.upd H7 D (.dT (numF (growAll W (T.take i) ++ [r2]) 0))) c6 = some (.lst (bs.map V.ref)) := by rw [upd_ne ncD]; exact c7
            have t8 : (L2.upd H7 D (.dT (numF (growAll W (T.take i) ++ [r2]) 0))) S = some (.lst (sa.map V.ref)) := by rw [upd_ne nDS.symm]; exact t7
            have a8 : (L2.upd H7 D (.dT (numF (growAll W (T.take i) ++ [r2]) 0))) A = some (.dK (aheadK (growAll [] ((T.take i).map (ixI (growAll W T)))))) := by rw [upd_ne nDA.symm]; exact a7
            have d8 : (L2.upd H7 D (.dT (numF (growAll W (T.take i) ++ [r2]) 0))) D = some (.dT (numF (growAll W (T.take i) ++ [r2]) 0)) := upd_same
            have s8 : Same H (L2.upd H7 D (.dT (numF (growAll W (T.take i) ++ [r2]) 0))) := smut s7 hD0
            generalize (L2.upd H7 D (.dT (numF (growAll W (T.take i) ++ [r2]) 0))) = H8 at nt8 l8 c8 t8 a8 d8 s8
            have nt9 : TupS H8 (L2.upd H8 L (.lst (ra2.map V.ref ++ [.ref b]))) := tup_mut l8 fun _ z => by cases z
            have n79 := nt8.trans nt9
            refine ⟨_, rfl, .inl ⟨rfl, _, SqL.of l8⟩, _, rfl, L, _, _, rfl, rfl, l8, szLt (by rw [List.length_map]; omega), ra2 ++ [b], rfl, smut s8 hL0, u7.trans n79, ?_, ?_, ?_, ?_, ?_, ?_⟩
            · rw [upd_ne ncL]; exact c8
            · rw [upd_same, List.map_append]; rfl
            · rw [upd_ne nLD.symm, hg]; exact d8
            · rw [upd_ne nLS.symm]; exact t8
            · rw [upd_ne nLA.symm]; exact a8
            · rw [hg]
              exact Each.snoc (n79 _ _ (u7 _ _ hbb)) (e7.imp fun b (x : Rm) h => n79 _ _ h)
        · intro σ' H8 I8
          obtain ⟨ra8, rfl, s8, u8, c8, l8, d8, t8, a8, e8⟩ := I8.ex
          have hmem : r2 ∈ growAll W (T.take (i + 1)) := by
            rw [hg]
            exact grow_mem.mpr (.inr rfl)
          have g : DGet H8 D (.ref b) (some (.int (ixI (growAll W T) r2))) := by
            have g := DGet.t d8 (u8 _ _ hk6)
            obtain ⟨s, es⟩ := grow_pre W T (i + 1)
            rw [num_val, if_pos hmem, Nat.zero_add] at g
            unfold ixI
            rw [es, ix_app hmem]
            exact g
          have la := growAll_len ((T.take i).map (ixI (growAll W T))) []
          rw [List.length_map, List.length_take] at la
          have la0 : ([] : List Int).length = 0 := rfl
          have nt9 : ∀ o, TupS H8 (L2.upd H8 A o) := fun o => tup_mut a8 fun _ z => by cases z
          refine ⟨_, rfl, _, rfl, _, rfl, D, _, rfl, g, A, _, rfl, DPut.k (k := Sum.inl (ixI (growAll W T) r2)) a8 (szLt (by rw [ahead_len]; omega)), _, ra8, rfl, smut s8 hA0, u8.trans (nt9 _), ?_, ?_, ?_, ?_, ?_, ?_⟩
          · rw [upd_ne ncA]; exact c8
          · rw [upd_ne nLA]; exact l8
          · rw [upd_ne nDA]; exact d8
          · rw [upd_ne nSA]; exact t8
          · rw [upd_same, ahead_put, List.take_add_one, hT, List.map_append]
            exact congrArg (fun l => some (HO.dK (aheadK l))) (growAll_snoc _ _ _).symm
          · exact e8.imp fun b (x : Rm) h => nt9 _ _ _ h
      · rintro σ H7 ⟨y6, I⟩
        obtain ⟨ra2, rfl, s7, u7, c7, l7, d7, t7, a7, e7⟩ := I.ex
        rw [List.length_map, lbs, List.take_length] at d7 a7 e7
        have lr2 := e7.len
        have lg := growAll_len T W
        have la := growAll_len (T.map (ixI (growAll W T))) []
        rw [List.length_map] at la
        have la0 : ([] : List Int).length = 0 := rfl
        refine ⟨_, rfl, L, _, rfl, .inl (SqL.of l7), _, rfl, _, _, rfl, rfl, _, rfl, ?_⟩
        rw [List.length_map, lr2]
        by_cases hgt : most < (growAll W T).length
        · rw [decide_eq_true (show ((most : Nat) : Int) < (((growAll W T).length : Nat) : Int) by omega)]
          exact iteT (q0 (k + 1) (by rw [eW]; exact hgt) H7 s7)
        · rw [decide_eq_false (show ¬ ((most : Nat) : Int) < (((growAll W T).length : Nat) : Int) by omega)]
          refine iteF ⟨_, rfl, .inl ⟨rfl, _, SqL.of t7⟩, _, rfl, A, _, _, rfl, .inl a7, ahead_keys _, by omega, fun ys q3 hp hs hq => ?_⟩
          have s8 := same_upd (o := .lst (ys.map V.int)) hq
          have g8 : (L2.upd H7 q3 (.lst (ys.map V.int))) q3 = some (.lst (ys.map V.int)) := upd_same
          generalize (L2.upd H7 q3 (.lst (ys.map V.int))) = H8 at s8 g8
          refine ⟨q3, _, rfl, .inl ⟨SqL.of g8, fun u hu => ?_⟩⟩
          have s9 := s8.trans (same_upd (o := .tup (ys.map V.int)) hu)
          have g9 : (L2.upd H8 u (.tup (ys.map V.int))) u = some (.tup (ys.map V.int)) := upd_same
          generalize (L2.upd H8 u (.tup (ys.map V.int))) = H9 at s9 g9
          have t9 := s9 _ _ t7
          have nt : TupS H9 (L2.upd H9 S (.lst (sa.map V.ref ++ [.ref u]))) := tup_mut t9 fun _ z => by cases z
          refine ⟨S, _, _, rfl, rfl, t9, szLt (by rw [List.length_map]; omega), ra2, sa ++ [u], _, _, rfl, smut (s7.trans s9) hS0, ?_, ?_, ?_, ?_, ?_, ?_, ?_⟩
          · rw [upd_ne nLS]; exact s9 _ _ l7
          · rw [upd_ne nDS, eW]; exact s9 _ _ d7
          · rw [upd_same, List.map_append]; rfl
          · rw [eW]
            exact e7.imp fun b (x : Rm) h => nt _ _ (s9 _ _ h)
          · rw [eT, eW]
            obtain ⟨s, es⟩ := growAll_app T W
            refine Each.snoc ⟨ys, nt _ _ g9, ?_, ?_, hs⟩ (f4.imp fun b (x : Rm) ⟨ys, h, r⟩ => ⟨ys, nt _ _ (s9 _ _ (u7 _ _ (eA6 _ _ h))), by rw [es]; exact r.app s⟩)
            · rw [hTT]
              exact fun x hx => (growAll_mem T).mpr (.inr hx)
            · rw [hTT]
              exact hp
          · rw [eW]
            obtain ⟨s, es⟩ := growAll_app T W
            rw [es, List.length_append]
            have : s.length ≠ 0 ∨ True := .inr trivial
            omega
          · rw [eW]
            omega
    · rw [decide_eq_false (show ¬ ((k : Nat) : Int) < (((roomsN p k).length : Nat) : Int) by omega)]
      refine iteF ?_
      have hn : (roomsN p k).length = k := by omega
      rw [List.take_of_length_le (by omega)] at f4
      refine ⟨_, rfl, L, rfl, ⟨_, SqL.of l4⟩, fun C hC => lc_list (xs := ra.map V.ref) (fun i H' => ∃ ks : List Addr, Same H4 H' ∧ H' C = some (.lst (ks.map V.ref)) ∧ ks.length ≤ i ∧ Each (fun b (x : Rm) => ∃ zs : List Str, H' b = some (.tup (zs.map V.str)) ∧ zs.Perm (wornV p x) ∧ RiseS zs) ks ((roomsN p k).take i)) ⟨[], same_upd hC, upd_same, Nat.zero_le _, .nil⟩ (fun i H' _ ⟨_, e, _⟩ => SqL.of (e _ _ l4)) ?_ ?_⟩
      · rintro i v H5 hi ⟨ks, s5, c5, lk, g5⟩
        obtain ⟨b, hb, rfl⟩ := map_get hi
        obtain ⟨r, hr2, hbr⟩ := e4.get hb
        refine ⟨rfl, ⟨_, rfl, _, rfl, a, b, p, r, rfl, x.same (s4.trans s5), G, SqT.of (s5 _ _ hbr), rooms_ok G k r (List.mem_of_getElem? hr2), fun H6 u zs s6 hu hp hs => ?_⟩⟩
        have c6 := s6 _ _ c5
        have hi2 := (List.getElem?_eq_some_iff.mp hr2).1
        have nt : ∀ (b2 : Addr) (ys : List V), H6 b2 = some (.tup ys) → (L2.upd H6 C (.lst (ks.map V.ref ++ [.ref u]))) b2 = some (.tup ys) := tup_mut c6 fun _ z => by cases z
        refine ⟨_, c6, szLt (by rw [List.length_map]; omega), ks ++ [u], smut (s5.trans s6) hC, by rw [upd_same, List.map_append]; rfl, by rw [List.length_append]; exact Nat.succ_le_succ lk, ?_⟩
        rw [List.take_add_one, hr2]
        exact Each.snoc ⟨zs, nt _ _ hu, hp, hs⟩ (g5.imp fun b (x : Rm) ⟨zs, h, r⟩ => ⟨zs, nt _ _ (s6 _ _ h), r⟩)
      · rintro H5 ⟨ks, s5, c5, lk, g5⟩
        rw [List.length_map, lra, List.take_length] at g5
        refine ⟨C, _, rfl, .inl ⟨SqL.of c5, fun M hM => ?_⟩⟩
        have sM := same_upd (o := .tup (ks.map V.ref)) hM
        have hM6 : (L2.upd H5 M (.tup (ks.map V.ref))) M = some (.tup (ks.map V.ref)) := upd_same
        have s6 := s5.trans sM
        have g6 := g5.imp fun b (x : Rm) (h : ∃ zs : List Str, H5 b = some (.tup (zs.map V.str)) ∧ zs.Perm (wornV p x) ∧ RiseS zs) => (let ⟨zs, h, r⟩ := h; ⟨zs, sM _ _ h, r⟩ : ∃ zs : List Str, (L2.upd H5 M (.tup (ks.map V.ref))) b = some (.tup (zs.map V.str)) ∧ zs.Perm (wornV p x) ∧ RiseS zs)
        generalize (L2.upd H5 M (.tup (ks.map V.ref))) = H6 at s6 hM6 g6
        refine ⟨_, rfl, S, _, rfl, .inl ⟨SqL.of (s6 _ _ t4), fun U hU => ?_⟩⟩
        have sU := same_upd (o := .tup (sa.map V.ref)) hU
        have hU7 : (L2.upd H6 U (.tup (sa.map V.ref))) U = some (.tup (sa.map V.ref)) := upd_same
        generalize (L2.upd H6 U (.tup (sa.map V.ref))) = H7 at sU hU7
        refine ⟨_, rfl, by show 2 ≤ sizeLine; decide, fun m hm8 => ?_⟩
        have sm := same_upd (o := .tup [.ref U, .ref M]) hm8
        have hm8 : (L2.upd H7 m (.tup [.ref U, .ref M])) m = some (.tup [.ref U, .ref M]) := upd_same
        generalize (L2.upd H7 m (.tup [.ref U, .ref M])) = H8 at sm hm8
        have s48 := (s6.trans sU).trans sm
        refine ⟨_, rfl, L, _, rfl, SqL.of (s48 _ _ l4), fun R o hR ho => ?_⟩
        have sR := same_upd (o := .frz o (.tup (ra.map V.ref))) hR
        have hR9 : (L2.upd H8 R (.frz o (.tup (ra.map V.ref)))) R = some (.frz o (.tup (ra.map V.ref))) := upd_same
        generalize (L2.upd H8 R (.frz o (.tup (ra.map V.ref)))) = H9 at sR hR9
        refine ⟨by show 2 ≤ sizeLine; decide, fun v hv => ?_⟩
        have sv := same_upd (o := .tup [.ref m, .ref R]) hv
        have hv10 : (L2.upd H9 v (.tup [.ref m, .ref R])) v = some (.tup [.ref m, .ref R]) := upd_same
        generalize (L2.upd H9 v (.tup [.ref m, .ref R])) = H10 at sv hv10
        have s69 := ((sU.trans sm).trans sR).trans sv
        have s4e := s6.trans s69
        refine q1 _ v k (s4.trans s4e) hn (by omega) ⟨m, R, U, M, ra, sa, ks, hv10, sv _ _ (sR _ _ hm8), sv _ _ (sR _ _ (sm _ _ hU7)), s69 _ _ hM6, TIX.FzT.same ⟨o, hR9, ho⟩ sv, e4.imp fun b (x : Rm) h => s4e _ _ h, f4.imp fun b (x : Rm) ⟨ys, h, r⟩ => ⟨ys, s4e _ _ h, r⟩, g6.imp fun b (x : Rm) ⟨ys, h, r⟩ => ⟨ys, s69 _ _ h, r⟩⟩
end

/-! ### lay -/
abbrev slay : Stmt := topS 14
theorem sclay : FnScope ["program", "most", "found"] ["program", "most"] (defScope slay) := ⟨rfl, rfl, rfl, by decide +kernel, rfl, by decide +kernel, by decide +kernel⟩
structure CalKX (P : Program) (w : World) (K : PySem.W.Frag) (mg : Str → Option Value) (base : Heap) (k : Nat) (x : Str) (ps : List Str) (sp : Sp) (n : Nat) (ks : List Str) (dv : List V) where
  f : Addr
  fd : FuncData
  G : FnOk P w K mg base (L2.CX P w) k f fd ps sp
  g : mg x = some (.ref f)
  kp : PySem.W.keepIn K (.ref f) = true
  ds : List Value
  rd : Vals dv ds
  b : Binds K fd ps ds
  kb : KBn K fd ps n ks (fun us ws => us ++ ws) (fun vs zs => vs ++ zs)
theorem passX {X : Cx} : Passes (L2.CX X.prog X.w) X (fun _ _ _ => False) := fun pins σ H s e s' I c => passAt takes0 σ pins H s e s' I c
section
variable {P : Program} {w : World} {K : PySem.W.Frag} {mg : Str → Option Value} {base : Heap}
def spLay (K : PySem.W.Frag) (cE : Addr) : Sp := fun vs H Q E => ∃ (a : Addr) (most : Nat) (p : Pg), vs = [.ref a, .int (most : Nat)] ∧ PgAt K H a p ∧ GoodPg p ∧ 1 ≤ most ∧ most ≤ 1000 ∧
  (∀ H' v n, Same H H' → (roomsN p n).length = n → n ≤ most → LayAt K H' v p (roomsN p n) → Q (.ref v) H') ∧ ∀ n, most < (roomsN p n).length → ∀ H', Same H H' → E (.ref cE) none H'
theorem ok_lay {f : Addr} {fd : FuncData} (F : FunD K "lay" "lay" (defArgs slay) (defBody slay) (defScope slay) [] [("most", V.int 40)] f fd) (T : Bi mg) (S : XOne K mg "TooGreat") (claid : Cal P w K mg base 6 "laid" ["program", "most"] (spLaid K)) : FnOk P w K mg base (L2.CX P w) 7 f fd ["program", "most"] (spLay K S.R) := by
  have xTooGreat := S.xR
  have rE := S.r
  refine F.ok sclay (fun vs H Q E h => ?_) (fun cdv A outer s H vs Q E hr h => ?_)
  · obtain ⟨a, most, p, rfl, _⟩ := h
    rfl
  · obtain ⟨a, most, p, rfl, x, G, m1, m2, q1, q0⟩ := h
    refine ⟨_, (pss_cons (ps_set (i := 2) sclay.nd rfl (.inl rfl) (pe_call claid.G hr (by rfl) claid.g claid.kp claid.b .nil pass0 (pa_cons (pv 0) (pa_cons (pv 1) pa_nil))))
      (pss_cons (ps_if (pt_cmpR op_isN (pv 2) pe_non (nomark _))
        (pss_one (ps_raise rfl (takes_of rfl rfl rfl rfl) (pmk_own PySem.F.excBase_ValueError rE.x xTooGreat.g xTooGreat.k (raises_own xTooGreat.b xTooGreat.t) rfl)))
        pss_nil)
      (pss_one (ps_ret (pv 2))))), ?_⟩
    refine ⟨_, rfl, _, rfl, a, most, p, rfl, x, G, m1, m2, fun H' v n s hn hm y => ?_, fun n hn H' s => ?_⟩
    · exact ⟨_, rfl, rfl, _, rfl, iteF ⟨_, rfl, q1 H' v n s hn hm y⟩⟩
    · exact ⟨_, rfl, rfl, _, rfl, iteT (q0 n hn H' s)⟩
end

/-! ### _law_same on things alike, of any depth -/
abbrev s_law_same : Stmt := topS 25
theorem sc_law_same : FnScope ["_law_found", "_law_due", "_law_k"] ["_law_found", "_law_due"] (defScope s_law_same) := ⟨rfl, rfl, rfl, by decide +kernel, rfl, by decide +kernel, by decide +kernel⟩
section
variable {P : Program} {w : World} {K : PySem.W.Frag} {mg : Str → Option Value} {base : Heap}
def Sm (K : PySem.W.Frag) (H : Hp) : Nat → V → V → Prop
  | 0, x, y => ∃ k : L2.Key, x = kV k ∧ y = kV k
  | d + 1, x, y => (∃ k : L2.Key, x = kV k ∧ y = kV k) ∨ ∃ (a b : Addr) (xs ys : List V), x = .ref a ∧ y = .ref b ∧ SqT K H a xs ∧ SqT K H b ys ∧ xs.length = ys.length ∧ xs.length ≤ 90000 ∧ ∀ (i : Nat) (u v : V), xs[i]? = some u → ys[i]? = some v → Sm K H d u v
theorem Sm.key {H : Hp} (k : L2.Key) : ∀ d, Sm K H d (kV k) (kV k)
  | 0 => ⟨k, rfl, rfl⟩
  | _ + 1 => .inl ⟨k, rfl, rfl⟩
theorem Sm.tup {H : Hp} {d : Nat} {a b : Addr} {xs ys : List V} (ha : SqT K H a xs) (hb : SqT K H b ys) (hl : xs.length = ys.length) (h9 : xs.length ≤ 90000) (h : ∀ (i : Nat) (u v : V), xs[i]? = some u → ys[i]? = some v → Sm K H d u v) : Sm K H (d + 1) (.ref a) (.ref b) :=
  .inr ⟨a, b, xs, ys, rfl, rfl, ha, hb, hl, h9, h⟩
theorem Sm.row {H : Hp} {d : Nat} {a b : Addr} {ks : List L2.Key} (ha : SqT K H a (ks.map kV)) (hb : SqT K H b (ks.map kV)) (h9 : ks.length ≤ 90000) : Sm K H (d + 1) (.ref a) (.ref b) :=
  Sm.tup ha hb rfl (by rw [List.length_map]; exact h9) fun i u v hu hv => by
    obtain ⟨k, _, rfl⟩ := map_get hu
    cases hu.symm.trans hv
    exact Sm.key k d
theorem Sm.ints {H : Hp} {d : Nat} {a b : Addr} {ns : List Int} (ha : SqT K H a (ns.map V.int)) (hb : SqT K H b (ns.map V.int)) (h9 : ns.length ≤ 90000) : Sm K H (d + 1) (.ref a) (.ref b) := by
  have e : (ns.map (Sum.inl : Int → L2.Key)).map kV = ns.map V.int := by
    rw [List.map_map]
    rfl
  exact Sm.row (ks := ns.map Sum.inl) (by rw [e]; exact ha) (by rw [e]; exact hb) (by rw [List.length_map]; exact h9)
theorem Sm.strs {H : Hp} {d : Nat} {a b : Addr} {ns : List Str} (ha : SqT K H a (ns.map V.str)) (hb : SqT K H b (ns.map V.str)) (h9 : ns.length ≤ 90000) : Sm K H (d + 1) (.ref a) (.ref b) := by
  have e : (ns.map (Sum.inr : Str → L2.Key)).map kV = ns.map V.str := by
    rw [List.map_map]
    rfl
  exact Sm.row (ks := ns.map Sum.inr) (by rw [e]; exact ha) (by rw [e]; exact hb) (by rw [List.length_map]; exact h9)
theorem Sm.each {α : Type} {H : Hp} {d : Nat} {R S : Addr → α → Prop} (f : ∀ a b x, R a x → S b x → Sm K H d (.ref a) (.ref b)) {a b : Addr} {as bs : List Addr} {xs : List α} (ha : SqT K H a (as.map V.ref)) (hb : SqT K H b (bs.map V.ref)) (ea : Each R as xs) (eb : Each S bs xs) (h9 : xs.length ≤ 90000) : Sm K H (d + 1) (.ref a) (.ref b) := by
  have la := ea.len
  have lb := eb.len
  refine Sm.tup ha hb (by rw [List.length_map, List.length_map, la, lb]) (by rw [List.length_map, la]; exact h9) fun i u v hu hv => ?_
  obtain ⟨a1, h1, rfl⟩ := map_get hu
  obtain ⟨b1, h2, rfl⟩ := map_get hv
  obtain ⟨x, hx, r⟩ := ea.get h1
  obtain ⟨y, hy, s⟩ := eb.get h2
  cases hx.symm.trans hy
  exact f _ _ _ r s
theorem Sm.two {H : Hp} {d : Nat} {a b : Addr} {x1 x2 y1 y2 : V} (ha : SqT K H a [x1, x2]) (hb : SqT K H b [y1, y2]) (h1 : Sm K H d x1 y1) (h2 : Sm K H d x2 y2) : Sm K H (d + 1) (.ref a) (.ref b) :=
  Sm.tup ha hb rfl (by show 2 ≤ 90000; decide) fun i u v hu hv => by
    match i with
    | 0 =>
      cases hu
      cases hv
      exact h1
    | 1 =>
      cases hu
      cases hv
      exact h2
    | i + 2 => cases hu
theorem Sm.up {H : Hp} : ∀ {d : Nat} {x y : V}, Sm K H d x y → Sm K H (d + 1) x y
  | 0, _, _, ⟨k, e1, e2⟩ => .inl ⟨k, e1, e2⟩
  | _ + 1, _, _, .inl h => .inl h
  | _ + 1, _, _, .inr ⟨a, b, xs, ys, e1, e2, h1, h2, h3, h4, h⟩ => .inr ⟨a, b, xs, ys, e1, e2, h1, h2, h3, h4, fun i u v hu hv => (h i u v hu hv).up⟩
theorem Each.withMem {α : Type} {R : Addr → α → Prop} : ∀ {as : List Addr} {xs : List α}, Each R as xs → Each (fun a x => x ∈ xs ∧ R a x) as xs
  | _, _, .nil => .nil
  | _, _, .cons h t => .cons ⟨List.mem_cons_self, h⟩ (t.withMem.imp fun _ _ ⟨m, r⟩ => ⟨List.mem_cons_of_mem _ m, r⟩)
def spSm (K : PySem.W.Frag) (d : Nat) : Sp := fun vs H Q _ => ∃ x y, vs = [x, y] ∧ Sm K H d x y ∧ Q (.bl true) H
theorem ok_sm0 {f : Addr} {fd : FuncData} (F : Fun K "_law_same" "_law_same" s_law_same f fd) (T : Bi mg) (g : mg "_law_same" = some (.ref f)) (kp : PySem.W.keepIn K (.ref f) = true) (b : Binds K fd ["_law_found", "_law_due"] []) : FnOk P w K mg base CX0 2 f fd ["_law_found", "_law_due"] (spSm K 0) := by
  have c_law_same : Cal P w K mg base 1 "_law_same" ["_law_found", "_law_due"] (fun _ _ _ _ => False) := ⟨f, fd, ⟨fun _ _ _ _ h => h.elim, fun _ _ _ _ _ _ _ _ _ _ _ _ _ h => h.elim⟩, g, kp, b⟩
  refine F.ok sc_law_same (fun vs H Q E h => ?_) (fun cdv A outer s H vs Q E hr h => ?_)
  · obtain ⟨x, y, rfl, _⟩ := h
    rfl
  · obtain ⟨x, y, rfl, ⟨k, rfl, rfl⟩, q⟩ := h
    refine ⟨_, (pss_cons (ps_if (pt_val (pe_callB call_isi (by rfl) T.isinstance (by decide +kernel) (pa_cons (pv 1) (pa_cons (pe_bltn (v := .ty "tuple") (u := .type "tuple") (by rfl) T.tuple (by decide +kernel) rfl) pa_nil))))
        (pss_cons (ps_if (PW.pt (pw_or (pt_not (pt_val (pe_callB call_isi (by rfl) T.isinstance (by decide +kernel) (pa_cons (pv 0) (pa_cons (pe_bltn (v := .ty "tuple") (u := .type "tuple") (by rfl) T.tuple (by decide +kernel) rfl) pa_nil))))) (pw_or1 (pt_cmpR op_ne (pe_callB call_len_seq (by rfl) T.len PySem.boot_len (pa_cons (pv 0) pa_nil)) (pe_callB call_len_seq (by rfl) T.len PySem.boot_len (pa_cons (pv 1) pa_nil)) (nomark _)))))
          (pss_one (ps_ret pe_bl))
          pss_nil)
        (pss_cons (ps_for PassesOwn.never rfl (pi_range1 (by rfl) T.range (pa_cons (pe_callB call_len_seq (by rfl) T.len PySem.boot_len (pa_cons (pv 1) pa_nil)) pa_nil)) (pg_name (i := 2) sc_law_same.nd rfl (.inl rfl))
          (pss_one (ps_if (pt_not (pt_val (pe_call c_law_same.G hr (by rfl) c_law_same.g c_law_same.kp c_law_same.b .nil pass0 (pa_cons (pe_ix ix_tup (pv 0) (pv 2) (fun _ _ => rfl)) (pa_cons (pe_ix ix_tup (pv 1) (pv 2) (fun _ _ => rfl)) pa_nil)))))
            (pss_one (ps_ret pe_bl))
            pss_nil)))
        (pss_one (ps_ret pe_bl))))
        pss_nil)
      (pss_cons (ps_if (pt_val (pe_callB call_isi (by rfl) T.isinstance (by decide +kernel) (pa_cons (pv 1) (pa_cons (pe_bltn (v := .ty "bool") (u := .type "bool") (by rfl) T.bool (by decide +kernel) rfl) pa_nil))))
        (pss_one (ps_ret (pe_and (pe_callB call_isi (by rfl) T.isinstance (by decide +kernel) (pa_cons (pv 0) (pa_cons (pe_bltn (v := .ty "bool") (u := .type "bool") (by rfl) T.bool (by decide +kernel) rfl) pa_nil))) (pe_one (pe_cmpR op_eq (pv 0) (pv 1) (nomark _))))))
        pss_nil)
      (pss_cons (ps_if (pt_val (pe_callB call_isi (by rfl) T.isinstance (by decide +kernel) (pa_cons (pv 1) (pa_cons (pe_bltn (v := .ty "int") (u := .type "int") (by rfl) T.int (by decide +kernel) rfl) pa_nil))))
        (pss_one (ps_ret (pe_and (pe_callB call_isi (by rfl) T.isinstance (by decide +kernel) (pa_cons (pv 0) (pa_cons (pe_bltn (v := .ty "int") (u := .type "int") (by rfl) T.int (by decide +kernel) rfl) pa_nil))) (pe_and (pe_not (pe_callB call_isi (by rfl) T.isinstance (by decide +kernel) (pa_cons (pv 0) (pa_cons (pe_bltn (v := .ty "bool") (u := .type "bool") (by rfl) T.bool (by decide +kernel) rfl) pa_nil)))) (pe_one (pe_cmpR op_eq (pv 0) (pv 1) (nomark _)))))))
        pss_nil)
      (pss_cons (ps_if (pt_val (pe_callB call_isi (by rfl) T.isinstance (by decide +kernel) (pa_cons (pv 1) (pa_cons (pe_bltn (v := .ty "str") (u := .type "str") (by rfl) T.str (by decide +kernel) rfl) pa_nil))))
        (pss_one (ps_ret (pe_and (pe_callB call_isi (by rfl) T.isinstance (by decide +kernel) (pa_cons (pv 0) (pa_cons (pe_bltn (v := .ty "str") (u := .type "str") (by rfl) T.str (by decide +kernel) rfl) pa_nil))) (pe_one (pe_cmpR op_eq (pv 0) (pv 1) (nomark _))))))
        pss_nil)
      (pss_one (ps_ret (pe_and (pe_cmpR op_isN (pv 1) pe_non (nomark _)) (pe_one (pe_cmpR op_isN (pv 0) pe_non (nomark _)))))))))), ?_⟩
    rcases k with n | z
    · refine ⟨_, rfl, _, _, _, _, false, rfl, .ty "tuple", .base (.int _), kit_ty (by decide +kernel), false, rfl, iteF ?_⟩
      refine ⟨_, rfl, _, _, _, _, false, rfl, .ty "bool", .base (.int _), kit_ty (by decide +kernel), false, rfl, iteF ?_⟩
      refine ⟨_, rfl, _, _, _, _, true, rfl, .ty "int", .base (.int _), kit_ty (by decide +kernel), true, rfl, iteT ?_⟩
      refine ⟨_, rfl, _, _, _, _, true, rfl, .ty "int", .base (.int _), kit_ty (by decide +kernel), true, rfl, iteT ?_⟩
      refine ⟨_, rfl, _, _, _, _, false, rfl, .ty "bool", .base (.int _), kit_ty (by decide +kernel), false, rfl, true, rfl, iteT ⟨_, rfl, _, rfl, rfl, ?_⟩⟩
      rw [decide_eq_true rfl]
      exact q
    · refine ⟨_, rfl, _, _, _, _, false, rfl, .ty "tuple", .base (.str _), kit_ty (by decide +kernel), false, rfl, iteF ?_⟩
      refine ⟨_, rfl, _, _, _, _, false, rfl, .ty "bool", .base (.str _), kit_ty (by decide +kernel), false, rfl, iteF ?_⟩
      refine ⟨_, rfl, _, _, _, _, false, rfl, .ty "int", .base (.str _), kit_ty (by decide +kernel), false, rfl, iteF ?_⟩
      refine ⟨_, rfl, _, _, _, _, true, rfl, .ty "str", .base (.str _), kit_ty (by decide +kernel), true, rfl, iteT ?_⟩
      refine ⟨_, rfl, _, _, _, _, true, rfl, .ty "str", .base (.str _), kit_ty (by decide +kernel), true, rfl, iteT ⟨_, rfl, _, rfl, rfl, ?_⟩⟩
      rw [decide_eq_true rfl]
      exact q
theorem ok_smS {f : Addr} {fd : FuncData} {d n : Nat} (F : Fun K "_law_same" "_law_same" s_law_same f fd) (T : Bi mg) (c_law_same : Cal P w K mg base n "_law_same" ["_law_found", "_law_due"] (spSm K d)) : FnOk P w K mg base CX0 (n + 1) f fd ["_law_found", "_law_due"] (spSm K (d + 1)) := by
  refine F.ok sc_law_same (fun vs H Q E h => ?_) (fun cdv A outer s H vs Q E hr h => ?_)
  · obtain ⟨x, y, rfl, _⟩ := h
    rfl
  · obtain ⟨x, y, rfl, h, q⟩ := h
    refine ⟨_, (pss_cons (ps_if (pt_val (pe_callB call_isi (by rfl) T.isinstance (by decide +kernel) (pa_cons (pv 1) (pa_cons (pe_bltn (v := .ty "tuple") (u := .type "tuple") (by rfl) T.tuple (by decide +kernel) rfl) pa_nil))))
        (pss_cons (ps_if (PW.pt (pw_or (pt_not (pt_val (pe_callB call_isi (by rfl) T.isinstance (by decide +kernel) (pa_cons (pv 0) (pa_cons (pe_bltn (v := .ty "tuple") (u := .type "tuple") (by rfl) T.tuple (by decide +kernel) rfl) pa_nil))))) (pw_or1 (pt_cmpR op_ne (pe_callB call_len_seq (by rfl) T.len PySem.boot_len (pa_cons (pv 0) pa_nil)) (pe_callB call_len_seq (by rfl) T.len PySem.boot_len (pa_cons (pv 1) pa_nil)) (nomark _)))))
          (pss_one (ps_ret pe_bl))
          pss_nil)
        (pss_cons (ps_for PassesOwn.never rfl (pi_range1 (by rfl) T.range (pa_cons (pe_callB call_len_seq (by rfl) T.len PySem.boot_len (pa_cons (pv 1) pa_nil)) pa_nil)) (pg_name (i := 2) sc_law_same.nd rfl (.inl rfl))
          (pss_one (ps_if (pt_not (pt_val (pe_call c_law_same.G hr (by rfl) c_law_same.g c_law_same.kp c_law_same.b .nil pass0 (pa_cons (pe_ix ix_tup (pv 0) (pv 2) (fun _ _ => rfl)) (pa_cons (pe_ix ix_tup (pv 1) (pv 2) (fun _ _ => rfl)) pa_nil)))))
            (pss_one (ps_ret pe_bl))
            pss_nil)))
        (pss_one (ps_ret pe_bl))))
        pss_nil)
      (pss_cons (ps_if (pt_val (pe_callB call_isi (by rfl) T.isinstance (by decide +kernel) (pa_cons (pv 1) (pa_cons (pe_bltn (v := .ty "bool") (u := .type "bool") (by rfl) T.bool (by decide +kernel) rfl) pa_nil))))
        (pss_one (ps_ret (pe_and (pe_callB call_isi (by rfl) T.isinstance (by decide +kernel) (pa_cons (pv 0) (pa_cons (pe_bltn (v := .ty "bool") (u := .type "bool") (by rfl) T.bool (by decide +kernel) rfl) pa_nil))) (pe_one (pe_cmpR op_eq (pv 0) (pv 1) (nomark _))))))
        pss_nil)
      (pss_cons (ps_if (pt_val (pe_callB call_isi (by rfl) T.isinstance (by decide +kernel) (pa_cons (pv 1) (pa_cons (pe_bltn (v := .ty "int") (u := .type "int") (by rfl) T.int (by decide +kernel) rfl) pa_nil))))
        (pss_one (ps_ret (pe_and (pe_callB call_isi (by rfl) T.isinstance (by decide +kernel) (pa_cons (pv 0) (pa_cons (pe_bltn (v := .ty "int") (u := .type "int") (by rfl) T.int (by decide +kernel) rfl) pa_nil))) (pe_and (pe_not (pe_callB call_isi (by rfl) T.isinstance (by decide +kernel) (pa_cons (pv 0) (pa_cons (pe_bltn (v := .ty "bool") (u := .type "bool") (by rfl) T.bool (by decide +kernel) rfl) pa_nil)))) (pe_one (pe_cmpR op_eq (pv 0) (pv 1) (nomark _)))))))
        pss_nil)
      (pss_cons (ps_if (pt_val (pe_callB call_isi (by rfl) T.isinstance (by decide +kernel) (pa_cons (pv 1) (pa_cons (pe_bltn (v := .ty "str") (u := .type "str") (by rfl) T.str (by decide +kernel) rfl) pa_nil))))
        (pss_one (ps_ret (pe_and (pe_callB call_isi (by rfl) T.isinstance (by decide +kernel) (pa_cons (pv 0) (pa_cons (pe_bltn (v := .ty "str") (u := .type "str") (by rfl) T.str (by decide +kernel) rfl) pa_nil))) (pe_one (pe_cmpR op_eq (pv 0) (pv 1) (nomark _))))))
        pss_nil)
      (pss_one (ps_ret (pe_and (pe_cmpR op_isN (pv 1) pe_non (nomark _)) (pe_one (pe_cmpR op_isN (pv 0) pe_non (nomark _)))))))))), ?_⟩
    rcases h with ⟨k, rfl, rfl⟩ | ⟨a, b, xs, ys, rfl, rfl, ha, hb, hl, h9, h⟩
    · rcases k with n | z
      · refine ⟨_, rfl, _, _, _, _, false, rfl, .ty "tuple", .base (.int _), kit_ty (by decide +kernel), false, rfl, iteF ?_⟩
        refine ⟨_, rfl, _, _, _, _, false, rfl, .ty "bool", .base (.int _), kit_ty (by decide +kernel), false, rfl, iteF ?_⟩
        refine ⟨_, rfl, _, _, _, _, true, rfl, .ty "int", .base (.int _), kit_ty (by decide +kernel), true, rfl, iteT ?_⟩
        refine ⟨_, rfl, _, _, _, _, true, rfl, .ty "int", .base (.int _), kit_ty (by decide +kernel), true, rfl, iteT ?_⟩
        refine ⟨_, rfl, _, _, _, _, false, rfl, .ty "bool", .base (.int _), kit_ty (by decide +kernel), false, rfl, true, rfl, iteT ⟨_, rfl, _, rfl, rfl, ?_⟩⟩
        rw [decide_eq_true rfl]
        exact q
      · refine ⟨_, rfl, _, _, _, _, false, rfl, .ty "tuple", .base (.str _), kit_ty (by decide +kernel), false, rfl, iteF ?_⟩
        refine ⟨_, rfl, _, _, _, _, false, rfl, .ty "bool", .base (.str _), kit_ty (by decide +kernel), false, rfl, iteF ?_⟩
        refine ⟨_, rfl, _, _, _, _, false, rfl, .ty "int", .base (.str _), kit_ty (by decide +kernel), false, rfl, iteF ?_⟩
        refine ⟨_, rfl, _, _, _, _, true, rfl, .ty "str", .base (.str _), kit_ty (by decide +kernel), true, rfl, iteT ?_⟩
        refine ⟨_, rfl, _, _, _, _, true, rfl, .ty "str", .base (.str _), kit_ty (by decide +kernel), true, rfl, iteT ⟨_, rfl, _, rfl, rfl, ?_⟩⟩
        rw [decide_eq_true rfl]
        exact q
    · refine ⟨_, rfl, _, _, _, _, true, rfl, .ty "tuple", ty_sqt hb, kit_ty (by decide +kernel), true, rfl, iteT ?_⟩
      refine ⟨_, rfl, _, _, _, _, true, rfl, .ty "tuple", ty_sqt ha, kit_ty (by decide +kernel), true, rfl, iteF ⟨_, rfl, a, _, rfl, .inr ha, _, rfl, b, _, rfl, .inr hb, rfl, _, rfl, ?_⟩⟩
      rw [hl, decide_eq_true rfl]
      refine iteF ⟨_, rfl, b, _, rfl, .inr hb, _, rfl, by omega, by omega, for_range (lo := 0) (n := ((ys.length : Nat) : Int).toNat) (fun i σ H' => ∃ y, σ = [some (.ref a), some (.ref b), y] ∧ H' = H) ⟨none, rfl, rfl⟩ ?_ ?_⟩
      · rintro i σ H' hi ⟨y, rfl, rfl⟩
        have hi : i < ys.length := by omega
        have e1 : xs[i]? = some xs[i] := List.getElem?_eq_getElem (by omega)
        have e2 : ys[i]? = some ys[i] := List.getElem?_eq_getElem hi
        exact ⟨_, rfl, _, rfl, a, _, _, _, rfl, rfl, ha, by rw [Int.zero_add]; exact atI_nat e1, _, rfl, _, rfl, b, _, _, _, rfl, rfl, hb, by rw [Int.zero_add]; exact atI_nat e2, _, _, rfl, h i _ _ e1 e2, true, rfl, iteF ⟨_, rfl, rfl⟩⟩
      · rintro σ H' ⟨y, rfl, rfl⟩
        exact q
theorem ok_sm {f : Addr} {fd : FuncData} (F : Fun K "_law_same" "_law_same" s_law_same f fd) (T : Bi mg) (g : mg "_law_same" = some (.ref f)) (kp : PySem.W.keepIn K (.ref f) = true) (b : Binds K fd ["_law_found", "_law_due"] []) : ∀ d, FnOk P w K mg base CX0 (d + 2) f fd ["_law_found", "_law_due"] (spSm K d)
  | 0 => ok_sm0 F T g kp b
  | d + 1 => ok_smS F T ⟨f, fd, ok_sm F T g kp b d, g, kp, b⟩
end

abbrev s_law_number : Stmt := topS 22
theorem sc_law_number : FnScope ["_law_thing", "_law_low", "_law_high"] ["_law_thing", "_law_low", "_law_high"] (defScope s_law_number) := ⟨rfl, rfl, rfl, by decide +kernel, rfl, by decide +kernel, by decide +kernel⟩
abbrev s_law_tuple : Stmt := topS 23
theorem sc_law_tuple : FnScope ["_law_thing", "_law_least", "_law_most"] ["_law_thing", "_law_least", "_law_most"] (defScope s_law_tuple) := ⟨rfl, rfl, rfl, by decide +kernel, rfl, by decide +kernel, by decide +kernel⟩
abbrev s_law_good_set : Stmt := topS 24
theorem sc_law_good_set : FnScope ["_law_thing", "_law_many", "_law_k"] ["_law_thing", "_law_many"] (defScope s_law_good_set) := ⟨rfl, rfl, rfl, by decide +kernel, rfl, by decide +kernel, by decide +kernel⟩
/-! ### the laws' own checks of numbers, tuples, sets -/
section
variable {P : Program} {w : World} {K : PySem.W.Frag} {mg : Str → Option Value} {base : Heap}
def spLNum : Sp := fun vs H Q _ => ∃ i lo hi : Int, vs = [.int i, .int lo, .int hi] ∧ Q (.bl (decide (lo ≤ i) && decide (i < hi))) H
theorem ok_lnum {f : Addr} {fd : FuncData} (F : Fun K "_law_number" "_law_number" s_law_number f fd) (T : Bi mg) : FnOk P w K mg base CX0 1 f fd ["_law_thing", "_law_low", "_law_high"] spLNum := by
  refine F.ok sc_law_number (fun vs H Q E h => ?_) (fun cdv A outer s H vs Q E hr h => ?_)
  · obtain ⟨i, lo, hi, rfl, _⟩ := h
    rfl
  · obtain ⟨i, lo, hi, rfl, q⟩ := h
    refine ⟨_, (pss_one (ps_ret (pe_and (pe_callB call_isi (by rfl) T.isinstance (by decide +kernel) (pa_cons (pv 0) (pa_cons (pe_bltn (v := .ty "int") (u := .type "int") (by rfl) T.int (by decide +kernel) rfl) pa_nil))) (pe_and (pe_not (pe_callB call_isi (by rfl) T.isinstance (by decide +kernel) (pa_cons (pv 0) (pa_cons (pe_bltn (v := .ty "bool") (u := .type "bool") (by rfl) T.bool (by decide +kernel) rfl) pa_nil)))) (pe_one (pe_chain op_le op_lt (pv 1) (pv 0) (pv 2))))))), ?_⟩
    refine ⟨_, rfl, _, _, _, _, true, rfl, .ty "int", .base (.int _), kit_ty (by decide +kernel), true, rfl, iteT ⟨_, rfl, _, _, _, _, false, rfl, .ty "bool", .base (.int _), kit_ty (by decide +kernel), false, rfl, true, rfl, iteT ⟨_, rfl, _, rfl, lo, i, rfl, rfl, _, rfl, ite2 (fun e => ?_) (fun e => ?_)⟩⟩⟩
    · refine ⟨_, rfl, i, hi, rfl, rfl, ?_⟩
      rw [e, Bool.true_and] at q
      exact q
    · rw [show decide (lo ≤ i) = false by simpa using e, Bool.false_and] at q
      exact q
def spLTup (K : PySem.W.Frag) : Sp := fun vs H Q _ => ∃ (a : Addr) (xs : List V) (lo hi : Int), vs = [.ref a, .int lo, .int hi] ∧ SqT K H a xs ∧ Q (.bl (decide (lo ≤ xs.length) && decide ((xs.length : Int) ≤ hi))) H
theorem ok_ltup {f : Addr} {fd : FuncData} (F : Fun K "_law_tuple" "_law_tuple" s_law_tuple f fd) (T : Bi mg) : FnOk P w K mg base CX0 1 f fd ["_law_thing", "_law_least", "_law_most"] (spLTup K) := by
  refine F.ok sc_law_tuple (fun vs H Q E h => ?_) (fun cdv A outer s H vs Q E hr h => ?_)
  · obtain ⟨a, xs, lo, hi, rfl, _⟩ := h
    rfl
  · obtain ⟨a, xs, lo, hi, rfl, hx, q⟩ := h
    refine ⟨_, (pss_one (ps_ret (pe_and (pe_callB call_isi (by rfl) T.isinstance (by decide +kernel) (pa_cons (pv 0) (pa_cons (pe_bltn (v := .ty "tuple") (u := .type "tuple") (by rfl) T.tuple (by decide +kernel) rfl) pa_nil))) (pe_one (pe_chain op_le op_le (pv 1) (pe_callB call_len_seq (by rfl) T.len PySem.boot_len (pa_cons (pv 0) pa_nil)) (pv 2)))))), ?_⟩
    refine ⟨_, rfl, _, _, _, _, true, rfl, .ty "tuple", ty_sqt hx, kit_ty (by decide +kernel), true, rfl, iteT ⟨_, rfl, _, rfl, a, xs, rfl, .inr hx, lo, _, rfl, rfl, _, rfl, ite2 (fun e => ?_) (fun e => ?_)⟩⟩
    · refine ⟨_, rfl, _, hi, rfl, rfl, ?_⟩
      rw [e, Bool.true_and] at q
      exact q
    · rw [show decide (lo ≤ (xs.length : Int)) = false by simpa using e, Bool.false_and] at q
      exact q
def spLSet (K : PySem.W.Frag) : Sp := fun vs H Q _ => ∃ (a : Addr) (ns : List Int) (many : Int), vs = [.ref a, .int many] ∧ SqT K H a (ns.map V.int) ∧ RiseI many ns ∧ 0 ≤ many ∧ ns.length ≤ 1000 ∧ Q (.bl true) H
theorem ok_lset {f : Addr} {fd : FuncData} (F : Fun K "_law_good_set" "_law_good_set" s_law_good_set f fd) (T : Bi mg) (c_law_tuple : Cal P w K mg base 1 "_law_tuple" ["_law_thing", "_law_least", "_law_most"] (spLTup K)) (c_law_number : Cal P w K mg base 1 "_law_number" ["_law_thing", "_law_low", "_law_high"] spLNum) :
    FnOk P w K mg base CX0 2 f fd ["_law_thing", "_law_many"] (spLSet K) := by
  refine F.ok sc_law_good_set (fun vs H Q E h => ?_) (fun cdv A outer s H vs Q E hr h => ?_)
  · obtain ⟨a, ns, many, rfl, _⟩ := h
    rfl
  · obtain ⟨a, ns, many, rfl, hx, hr1, hm, hl1, q⟩ := h
    have hl := rise_len hr1 hm
    refine ⟨_, (pss_cons (ps_if (pt_not (pt_val (pe_call c_law_tuple.G hr (by rfl) c_law_tuple.g c_law_tuple.kp c_law_tuple.b .nil pass0 (pa_cons (pv 0) (pa_cons pe_int (pa_cons (pv 1) pa_nil))))))
        (pss_one (ps_ret pe_bl))
        pss_nil)
      (pss_cons (ps_for PassesOwn.never rfl (pi_range1 (by rfl) T.range (pa_cons (pe_callB call_len_seq (by rfl) T.len PySem.boot_len (pa_cons (pv 0) pa_nil)) pa_nil)) (pg_name (i := 2) sc_law_good_set.nd rfl (.inl rfl))
        (pss_one (ps_if (PW.pt (pw_or (pt_not (pt_val (pe_call c_law_number.G hr (by rfl) c_law_number.g c_law_number.kp c_law_number.b .nil pass0 (pa_cons (pe_ix ix_tup (pv 0) (pv 2) (fun _ _ => rfl)) (pa_cons pe_int (pa_cons (pv 1) pa_nil)))))) (pw_or1 (PW.pt (pw_and (pt_cmpR op_gt (pv 2) pe_int (nomark _)) (pw_and1 (pt_cmpR op_ge (pe_ix ix_tup (pv 0) (pe_op op_sub (pv 2) pe_int) (fun _ _ => rfl)) (pe_ix ix_tup (pv 0) (pv 2) (fun _ _ => rfl)) (nomark _))))))))
          (pss_one (ps_ret pe_bl))
          pss_nil)))
      (pss_one (ps_ret pe_bl)))), ?_⟩
    refine ⟨_, rfl, _, rfl, a, _, 0, many, rfl, hx, _, rfl, ?_⟩
    rw [List.length_map, show (decide ((0 : Int) ≤ ns.length) && decide ((ns.length : Int) ≤ many)) = true by rw [decide_eq_true (by omega), decide_eq_true hl] <;> rfl]
    refine iteF ⟨_, rfl, a, _, rfl, .inr hx, _, rfl, by omega, by rw [List.length_map]; omega, for_range (lo := 0) (n := (((ns.map V.int).length : Nat) : Int).toNat) (fun i σ H' => ∃ y, σ = [some (.ref a), some (.int many), y] ∧ H' = H) ⟨_, rfl, rfl⟩ ?_ ?_⟩
    · rintro i σ H1 hi ⟨y, rfl, rfl⟩
      rw [Int.toNat_natCast, List.length_map] at hi
      have g : (ns.map V.int)[i]? = some (.int ns[i]) := get_map (List.getElem?_eq_getElem hi)
      have hb := hr1.2 ns[i] (List.getElem_mem hi)
      refine ⟨_, rfl, _, rfl, a, _, _, _, rfl, rfl, hx, at_of (Int.zero_add _) g, _, rfl, _, 0, many, rfl, _, rfl, ?_⟩
      rw [decide_eq_true hb.1, decide_eq_true hb.2]
      refine iteF ⟨_, rfl, _, _, rfl, rfl, _, rfl, ite2 (fun e => ?_) (fun e => ?_)⟩
      · have i0 : 0 < i := by
          have := of_decide_eq_true e
          omega
        have hi1 : i - 1 < ns.length := by omega
        have g1 : (ns.map V.int)[i - 1]? = some (.int ns[i - 1]) := get_map (List.getElem?_eq_getElem hi1)
        have lt := (List.pairwise_iff_getElem.mp hr1.1) (i - 1) i hi1 hi (by omega)
        refine ⟨_, rfl, _, rfl, _, _, rfl, rfl, a, _, _, _, rfl, rfl, hx, at_of (by show 0 + (i : Int) - 1 = ((i - 1 : Nat) : Int); omega) g1, _, rfl, _, rfl, a, _, _, _, rfl, rfl, hx, at_of (Int.zero_add _) g, _, _, rfl, rfl, _, rfl, ?_⟩
        rw [decide_eq_false (by omega)]
        exact iteF ⟨_, rfl, rfl⟩
      · exact iteF ⟨_, rfl, rfl⟩
    · rintro σ H1 ⟨y, rfl, rfl⟩
      exact q
end


/-! ### the law's own check of a layout -/
abbrev s_law_good_layout : Stmt := topS 40
theorem sc_law_good_layout : FnScope ["_law_program_here", "_law_told", "_law_many", "_law_long", "_law_k", "_law_room", "_law_one"] ["_law_program_here", "_law_told"] (defScope s_law_good_layout) := ⟨rfl, rfl, rfl, by decide +kernel, rfl, by decide +kernel, by decide +kernel⟩
section
variable {P : Program} {w : World} {K : PySem.W.Frag} {mg : Str → Option Value} {base : Heap}
theorem any_rooms (x : Rm) : ∀ W : List Rm, ((W.map fun r => PyData.tuple (r.map PyData.int)).any fun z => PyData.eqv z (.tuple (x.map PyData.int))) = decide (x ∈ W)
  | [] => rfl
  | y :: W => by
    rw [List.map_cons, List.any_cons, any_rooms x W, eqv_intsT, Bool.eq_iff_iff, Bool.or_eq_true, decide_eq_true_eq, decide_eq_true_eq, decide_eq_true_eq, List.mem_cons]
    exact or_congr ⟨fun h => h.symm, fun h => h.symm⟩ Iff.rfl
theorem growAll_rise {W : List Rm} {n : Nat} (hn : W.length = n) {T : List Rm} (h : ∀ x ∈ T, x ∈ W) {ys : List Int} (hp : ys.Perm (growAll [] (T.map (ixI W)))) (hs : ys.Pairwise (· ≤ ·)) : RiseI (n : Int) ys := by
  have nd : ys.Nodup := hp.nodup_iff.mpr (growAll_nodup _ List.nodup_nil)
  refine ⟨?_, fun i hi => ?_⟩
  · have := List.pairwise_and_iff.mpr ⟨hs, nd⟩
    exact this.imp fun {a b} ⟨h1, h2⟩ => by omega
  · rcases (growAll_mem _).mp (hp.subset hi) with h0 | h0
    · exact absurd h0 List.not_mem_nil
    · obtain ⟨x, hx, rfl⟩ := List.mem_map.mp h0
      have := ix_lt (h x hx)
      unfold ixI
      omega
theorem Each.take {α : Type} {R : Addr → α → Prop} : ∀ (i : Nat) {as : List Addr} {xs : List α}, Each R as xs → Each R (as.take i) (xs.take i)
  | 0, _, _, _ => by rw [List.take_zero, List.take_zero]; exact .nil
  | i + 1, _, _, .nil => .nil
  | i + 1, _, _, .cons h t => .cons h (t.take i)
theorem cut_to' (xs : List V) (i : Nat) : cutV xs none (some (i : Int)) = xs.take i := cut_to
def spGL (K : PySem.W.Frag) : Sp := fun vs H Q _ => ∃ (a v : Addr) (p : Pg) (n : Nat), vs = [.ref a, .ref v] ∧ PgAt K H a p ∧ GoodPg p ∧ (roomsN p n).length = n ∧ n ≤ 40 ∧ LayAt K H v p (roomsN p n) ∧ ∀ H', Same H H' → Q (.bl true) H'
theorem ok_gl {f : Addr} {fd : FuncData} (F : Fun K "_law_good_layout" "_law_good_layout" s_law_good_layout f fd) (T : Bi mg) (c_law_tuple : Cal P w K mg base 1 "_law_tuple" ["_law_thing", "_law_least", "_law_most"] (spLTup K)) (c_law_number : Cal P w K mg base 1 "_law_number" ["_law_thing", "_law_low", "_law_high"] spLNum)
    (c_law_good_set : Cal P w K mg base 2 "_law_good_set" ["_law_thing", "_law_many"] (spLSet K)) (c_law_first_room : Cal P w K mg base 1 "_law_first_room" ["_law_program_here"] (spFR K)) : FnOk P w K mg base CX0 3 f fd ["_law_program_here", "_law_told"] (spGL K) := by
  refine F.ok sc_law_good_layout (fun vs H Q E h => ?_) (fun cdv A outer s H vs Q E hr h => ?_)
  · obtain ⟨a, v, p, n, rfl, _⟩ := h
    rfl
  · obtain ⟨a, v, p, n, rfl, x, G, hn, n40, y, q⟩ := h
    obtain ⟨c, m2, kk, xc, xm, xk, g1, g2, g3, g4, g5, g6, g7⟩ := x.ex
    obtain ⟨m, rr, s1, k1, rs, ss, ks, h1, h2, h3, h4, h5, h6, h7, h8⟩ := y.ex
    have h1 := SqT.of (K := K) h1
    have h2 := SqT.of (K := K) h2
    have h3 := SqT.of (K := K) h3
    have h4 := SqT.of (K := K) h4
    have h5 := h5.sq (K := K)
    have lrs := h6.len
    have lss := h7.len
    have lks := h8.len
    have np := rooms_pos p n
    have lc := g3.len
    have c4 := G.c4
    have c1 := G.c1
    have lrs2 : (rs.map V.ref).length = n := by rw [List.length_map, lrs, hn]
    have lss2 : (ss.map V.ref).length = n := by rw [List.length_map, lss, hn]
    have lks2 : (ks.map V.ref).length = n := by rw [List.length_map, lks, hn]
    have tt : ∀ {a b : Prop} [Decidable a] [Decidable b], a → b → (decide a && decide b) = true := fun ha hb => by rw [decide_eq_true ha, decide_eq_true hb]; rfl
    have two : ∀ u v : V, (decide ((2 : Int) ≤ (([u, v].length : Nat) : Int)) && decide ((([u, v].length : Nat) : Int) ≤ 2)) = true := fun _ _ => rfl
    refine ⟨_, (pss_cons (ps_if (PW.pt (pw_or (pt_not (pt_val (pe_call c_law_tuple.G (hr.mono (by decide)) (by rfl) c_law_tuple.g c_law_tuple.kp c_law_tuple.b .nil pass0 (pa_cons (pv 1) (pa_cons pe_int (pa_cons pe_int pa_nil)))))) (pw_or (pt_not (pt_val (pe_call c_law_tuple.G (hr.mono (by decide)) (by rfl) c_law_tuple.g c_law_tuple.kp c_law_tuple.b .nil pass0 (pa_cons (pe_ix ix_tup (pv 1) pe_int (fun _ _ => rfl)) (pa_cons pe_int (pa_cons pe_int pa_nil)))))) (pw_or1 (pt_not (pt_val (pe_call c_law_tuple.G (hr.mono (by decide)) (by rfl) c_law_tuple.g c_law_tuple.kp c_law_tuple.b .nil pass0 (pa_cons (pe_ix ix_tup (pv 1) pe_int (fun _ _ => rfl)) (pa_cons pe_int (pa_cons pe_int pa_nil))))))))))
        (pss_one (ps_ret pe_bl))
        pss_nil)
      (pss_cons (ps_set (i := 2) sc_law_good_layout.nd rfl (.inl rfl) (pe_callB call_len_seq (by rfl) T.len PySem.boot_len (pa_cons (pe_ix ix_tup (pv 1) pe_int (fun _ _ => rfl)) pa_nil)))
      (pss_cons (ps_set (i := 3) sc_law_good_layout.nd rfl (.inl rfl) (pe_op op_add (pe_callB call_lenX (by rfl) T.len PySem.boot_len (pa_cons (pe_ix ix_tup (pv 0) pe_int (fun _ _ => rfl)) pa_nil)) (pe_callTy call_int1 (by rfl) T.int (by decide +kernel) (pa_cons (pe_ix ix_tup (pv 0) pe_int (fun _ _ => rfl)) pa_nil))))
      (pss_cons (ps_if (PW.pt (pw_or (pt_not (pt_val (pe_call c_law_tuple.G (hr.mono (by decide)) (by rfl) c_law_tuple.g c_law_tuple.kp c_law_tuple.b .nil pass0 (pa_cons (pe_ix ix_tup (pe_ix ix_tup (pv 1) pe_int (fun _ _ => rfl)) pe_int (fun _ _ => rfl)) (pa_cons (pv 2) (pa_cons (pv 2) pa_nil)))))) (pw_or1 (pt_not (pt_val (pe_call c_law_tuple.G (hr.mono (by decide)) (by rfl) c_law_tuple.g c_law_tuple.kp c_law_tuple.b .nil pass0 (pa_cons (pe_ix ix_tup (pe_ix ix_tup (pv 1) pe_int (fun _ _ => rfl)) pe_int (fun _ _ => rfl)) (pa_cons (pv 2) (pa_cons (pv 2) pa_nil)))))))))
        (pss_one (ps_ret pe_bl))
        pss_nil)
      (pss_cons (ps_for PassesOwn.never rfl (pi_range1 (by rfl) T.range (pa_cons (pv 2) pa_nil)) (pg_name (i := 4) sc_law_good_layout.nd rfl (.inl rfl))
        (pss_cons (ps_set (i := 5) sc_law_good_layout.nd rfl (.inl rfl) (pe_ix ix_tup (pe_ix ix_tup (pv 1) pe_int (fun _ _ => rfl)) (pv 4) (fun _ _ => rfl)))
        (pss_cons (ps_if (PW.pt (pw_or (pt_not (pt_val (pe_call c_law_tuple.G (hr.mono (by decide)) (by rfl) c_law_tuple.g c_law_tuple.kp c_law_tuple.b .nil pass0 (pa_cons (pv 5) (pa_cons (pv 3) (pa_cons (pv 3) pa_nil)))))) (pw_or1 (pt_cmpR (EQL.op_neNil hr.units) (pe_lc (own := [("_law_one", 6)]) (g := gName 6) rfl sc_law_good_layout.nd (pi_tup (pv 5)) (blkOk_by (own := [("_law_one", 6)]) (N := ["_law_program_here", "_law_told", "_law_many", "_law_long", "_law_k", "_law_room", "_law_one"]) (sc := defScope s_law_good_layout) (by decide +kernel)) (fun _ _ _ _ _ => (pg_name (i := 6) sc_law_good_layout.nd rfl (.inl rfl))) (fun _ _ _ _ _ => (pts_one (pt_not (pt_val (pe_call c_law_number.G (hr.mono (by decide)) (by rfl) c_law_number.g c_law_number.kp c_law_number.b .nil pass0 (pa_cons (pv 6) (pa_cons (pe_un un_neg pe_int) (pa_cons pe_int pa_nil)))))))) (fun _ _ _ _ _ => (pv 6))) (pe_lst pa_nil) (nomark _)))))
          (pss_one (ps_ret pe_bl))
          pss_nil)
        (pss_one (ps_if (PW.pt (pw_or (pt_not (pt_val (pe_call c_law_good_set.G hr (by rfl) c_law_good_set.g c_law_good_set.kp c_law_good_set.b .nil pass0 (pa_cons (pe_ix ix_tup (pe_ix ix_tup (pe_ix ix_tup (pv 1) pe_int (fun _ _ => rfl)) pe_int (fun _ _ => rfl)) (pv 4) (fun _ _ => rfl)) (pa_cons (pv 2) pa_nil))))) (pw_or (pt_not (pt_val (pe_call c_law_tuple.G (hr.mono (by decide)) (by rfl) c_law_tuple.g c_law_tuple.kp c_law_tuple.b .nil pass0 (pa_cons (pe_ix ix_tup (pe_ix ix_tup (pe_ix ix_tup (pv 1) pe_int (fun _ _ => rfl)) pe_int (fun _ _ => rfl)) (pv 4) (fun _ _ => rfl)) (pa_cons pe_int (pa_cons pe_int pa_nil)))))) (pw_or1 (pt_cmpR (RPL.op_inT (TIX.un65 hr)) (pv 5) (pe_slice sl_tupQ (pe_ix ix_tup (pv 1) pe_int (fun _ _ => rfl)) po_none (po_some (pv 4))) (by rfl))))))
          (pss_one (ps_ret pe_bl))
          pss_nil)))))
      (pss_one (ps_ret (pe_cmpR (op_eqD hr.units) (pe_ix ix_tup (pe_ix ix_tup (pv 1) pe_int (fun _ _ => rfl)) pe_int (fun _ _ => rfl)) (pe_call c_law_first_room.G (hr.mono (by decide)) (by rfl) c_law_first_room.g c_law_first_room.kp c_law_first_room.b .nil pass0 (pa_cons (pv 0) pa_nil)) (nomark _))))))))), ?_⟩
    refine ⟨_, rfl, v, _, 2, 2, rfl, h1, _, rfl, ?_⟩
    rw [two]
    refine iteF ⟨_, rfl, v, _, 0, _, rfl, rfl, h1, at_of (j := 0) rfl rfl, m, _, 2, 2, rfl, h2, _, rfl, ?_⟩
    rw [two]
    refine iteF ⟨_, rfl, v, _, 1, _, rfl, rfl, h1, at_of (j := 1) rfl rfl, rr, _, 1, 40, rfl, h5, _, rfl, ?_⟩
    rw [lrs2, tt (by omega) (by omega)]
    refine iteF ⟨_, rfl, v, _, 1, _, rfl, rfl, h1, at_of (j := 1) rfl rfl, rr, _, rfl, .inr h5, ?_⟩
    refine ⟨_, rfl, a, _, 0, _, rfl, rfl, g1, at_of (j := 0) rfl rfl, .inr ⟨c, _, rfl, .inr g2, _, rfl, a, _, 3, _, rfl, rfl, g1, at_of (j := 3) rfl rfl, .inr ⟨_, rfl, _, _, rfl, rfl, ?_⟩⟩⟩
    obtain ⟨lng, hlng, hl0⟩ : ∃ l : Nat, (((xc.length : Nat) : Int) + (if p.keeps = true then 1 else 0)) = (l : Int) ∧ l = p.cs.length + if p.keeps = true then 1 else 0 := ⟨p.cs.length + if p.keeps = true then 1 else 0, by rw [lc]; split <;> rfl, rfl⟩
    show gName 3 (V.int (((xc.length : Nat) : Int) + if p.keeps = true then 1 else 0)) _ _ _
    rw [hlng, lrs2]
    refine ⟨_, rfl, v, _, 0, _, rfl, rfl, h1, at_of (j := 0) rfl rfl, m, _, 0, _, rfl, rfl, h2, at_of (j := 0) rfl rfl, _, rfl, _, rfl, s1, _, _, _, rfl, h3, _, rfl, ?_⟩
    rw [lss2, tt (Int.le_refl _) (Int.le_refl _)]
    refine iteF ⟨_, rfl, v, _, 0, _, rfl, rfl, h1, at_of (j := 0) rfl rfl, m, _, 1, _, rfl, rfl, h2, at_of (j := 1) rfl rfl, _, rfl, _, rfl, k1, _, _, _, rfl, h4, _, rfl, ?_⟩
    rw [lks2, tt (Int.le_refl _) (Int.le_refl _)]
    refine iteF ⟨_, rfl, _, rfl, by omega, by omega, for_range (lo := 0) (n := ((n : Nat) : Int).toNat) (fun i σ H' => ∃ (y4 y5 : Option V), σ = [some (.ref a), some (.ref v), some (.int (n : Nat)), some (.int (lng : Nat)), y4, y5, none] ∧ Same H H') ⟨_, _, rfl, Same.refl _⟩ ?_ ?_⟩
    · rintro i σ H1 hi ⟨y4, y5, rfl, s2⟩
      rw [Int.toNat_natCast] at hi
      have e0 : (0 : Int) + (i : Int) = ((i : Nat) : Int) := Int.zero_add _
      rw [e0]
      obtain ⟨r, hr2⟩ : ∃ r, (roomsN p n)[i]? = some r := ⟨_, List.getElem?_eq_getElem (by omega)⟩
      have hrm := List.mem_of_getElem? hr2
      have R := rooms_ok G n r hrm
      have rl := R.len
      rw [← hl0] at rl
      obtain ⟨b, hb, hbr⟩ := h6.getx hr2
      obtain ⟨u, hu, ys, hur, hys⟩ := h7.getx hr2
      obtain ⟨z, hz, zs, hzr, hzp, hzs⟩ := h8.getx hr2
      have hbr := SqT.of (K := K) hbr
      have hur := SqT.of (K := K) hur
      have hzr := SqT.of (K := K) hzr
      have wl := worn_len G (r := r)
      have zl := hzp.length_eq
      have ris := growAll_rise hn hys.1 hys.2.1 hys.2.2
      have yl := rise_len ris (by omega)
      refine ⟨_, rfl, v, _, 1, _, rfl, rfl, ssqt s2 h1, at_of (j := 1) rfl rfl, _, rfl, rr, _, _, _, rfl, rfl, ssqt s2 h5, atI_nat (get_map hb), ?_⟩
      refine ⟨_, rfl, _, rfl, _, rfl, b, _, _, _, rfl, ssqt s2 hbr, _, rfl, ?_⟩
      rw [List.length_map, rl, tt (Int.le_refl _) (Int.le_refl _)]
      refine iteF ⟨_, rfl, b, rfl, ⟨_, ssqt s2 hbr⟩, fun D hD => lc_tupS (fun i acc => acc = []) (ssqt s2 hbr) hD (by rw [List.length_map]; omega) rfl (fun _ => rfl) (fun j y H3 acc hj s3 hacc _ N1 N2 k1 k2 => ?_) (fun H3 acc s3 hD3 _ hok => ?_)⟩
      · obtain ⟨xi, hx, rfl⟩ := map_get hj
        have hxb := rm_bound G R xi (List.mem_of_getElem? hx)
        refine ⟨_, rfl, _, rfl, xi, -1, 9, rfl, _, rfl, ?_⟩
        rw [tt hxb.1 hxb.2]
        exact iteF (k2 _ (Same.refl _) hacc)
      · subst hok
        refine ⟨Nat.zero_le _, fun E hE => ?_⟩
        have sE := same_upd (o := .lst []) hE
        have s4 := (s2.trans s3).trans sE
        refine ⟨D, E, [], rfl, rfl, SqL.of (sE _ _ hD3), SqL.of upd_same, _, rfl, ?_⟩
        generalize (L2.upd H3 E (.lst [])) = H4 at s4
        refine iteF ⟨_, rfl, v, _, 0, _, rfl, rfl, ssqt s4 h1, at_of (j := 0) rfl rfl, m, _, 0, _, rfl, rfl, ssqt s4 h2, at_of (j := 0) rfl rfl, _, rfl, s1, _, _, _, rfl, rfl, ssqt s4 h3, atI_nat (get_map hu), _, rfl, u, ys, (n : Nat), rfl, ssqt s4 hur, ris, by omega, by omega, _, rfl, ?_⟩
        refine iteF ⟨_, rfl, v, _, 0, _, rfl, rfl, ssqt s4 h1, at_of (j := 0) rfl rfl, m, _, 1, _, rfl, rfl, ssqt s4 h2, at_of (j := 1) rfl rfl, _, rfl, k1, _, _, _, rfl, rfl, ssqt s4 h4, atI_nat (get_map hz), z, _, 0, 8, rfl, ssqt s4 hzr, _, rfl, ?_⟩
        rw [List.length_map, tt (by omega) (by omega)]
        refine iteF ⟨_, rfl, _, rfl, v, _, 1, _, rfl, rfl, ssqt s4 h1, at_of (j := 1) rfl rfl, _, rfl, i, rfl, rr, _, rfl, ssqt s4 h5, fun C H5 s5 hC => ?_⟩
        have s25 := s4.trans s5
        rw [cut_to', ← List.map_take] at hC
        have hE6 : Each (fun u (x : Rm) => SqT K H5 u (x.map V.int)) (rs.take i) ((roomsN p n).take i) := (h6.imp fun b (x : Rm) h => SqT.of (s25 _ _ h)).take i
        refine ⟨_, _, dp_intsT (ssqt s25 hbr), .tup hC (TIX.dp_rooms hE6), shaped_intsT _, TIX.shaped_rooms _, _, rfl, ?_⟩
        rw [any_rooms, decide_eq_false fun hm => ?_]
        · exact iteF ⟨_, _, rfl, s25⟩
        · obtain ⟨j, hj⟩ := List.mem_iff_getElem?.mp hm
          rw [List.getElem?_take] at hj
          split at hj
          · have := (List.getElem?_inj (by omega) (rooms_nodup p n)).mp (hj.trans hr2.symm)
            omega
          · cases hj
    · rintro σ H1 ⟨y4, y5, rfl, s2⟩
      obtain ⟨s, es⟩ := rooms_le p (Nat.zero_le n)
      have hr0 : (roomsN p n)[0]? = some (firstV p) := by rw [es]; rfl
      obtain ⟨b, hb, hbr⟩ := h6.getx hr0
      refine ⟨_, rfl, v, _, 1, _, rfl, rfl, ssqt s2 h1, at_of (j := 1) rfl rfl, rr, _, 0, _, rfl, rfl, ssqt s2 h5, atI_nat (get_map hb), _, rfl, a, p, rfl, x.same s2, G, fun H3 c3 s3 hc3 => ?_⟩
      refine ⟨_, _, dp_intsT (SqT.of (s3 _ _ (s2 _ _ hbr))), dp_intsT (SqT.of hc3), shaped_intsT _, shaped_intsT _, ?_⟩
      rw [eqv_intsT, decide_eq_true rfl]
      exact q _ (s2.trans s3)
end


/-! ### what is reached; rows picked by a test: the mathematics -/
def pick (f : Nat → Bool) (n : Nat) : List Int := ((List.range n).filter f).map Int.ofNat
theorem pick_yes {f : Nat → Bool} {n : Nat} (h : f n = true) : pick f (n + 1) = pick f n ++ [(n : Int)] := by
  unfold pick
  rw [List.range_succ, List.filter_append, List.map_append, List.filter_cons, if_pos h] <;> rfl
theorem pick_no {f : Nat → Bool} {n : Nat} (h : f n = false) : pick f (n + 1) = pick f n := by
  unfold pick
  rw [List.range_succ, List.filter_append, List.map_append, List.filter_cons, if_neg (by rw [h]; decide)]
  show _ ++ [] = _
  rw [List.append_nil]
theorem pick_mem {f : Nat → Bool} {n : Nat} {x : Int} : x ∈ pick f n ↔ ∃ j : Nat, j < n ∧ f j = true ∧ x = j := by
  unfold pick
  rw [List.mem_map]
  constructor
  · rintro ⟨j, hj, rfl⟩
    rw [List.mem_filter, List.mem_range] at hj
    exact ⟨j, hj.1, hj.2, rfl⟩
  · rintro ⟨j, h1, h2, rfl⟩
    exact ⟨j, List.mem_filter.mpr ⟨List.mem_range.mpr h1, h2⟩, rfl⟩
theorem pick_rise (f : Nat → Bool) (n : Nat) : RiseI n (pick f n) := by
  refine ⟨?_, fun x hx => ?_⟩
  · unfold pick
    refine List.pairwise_map.mpr ((List.pairwise_lt_range.filter f).imp fun {a b} h => ?_)
    show (a : Int) < (b : Int)
    omega
  · obtain ⟨j, h1, _, rfl⟩ := pick_mem.mp hx
    omega
theorem pick_len (f : Nat → Bool) (n : Nat) : (pick f n).length ≤ n := by
  have := rise_len (pick_rise f n) (by omega)
  omega
theorem rise_ext : ∀ {l m : List Int}, l.Pairwise (· < ·) → m.Pairwise (· < ·) → (∀ t, t ∈ l ↔ t ∈ m) → l = m
  | [], [], _, _, _ => rfl
  | [], y :: r, _, _, h => absurd ((h y).mpr List.mem_cons_self) List.not_mem_nil
  | x :: l, [], _, _, h => absurd ((h x).mp List.mem_cons_self) List.not_mem_nil
  | x :: l, y :: r, p, q, h => by
    obtain ⟨p1, p2⟩ := List.pairwise_cons.mp p
    obtain ⟨q1, q2⟩ := List.pairwise_cons.mp q
    have e : x = y := by
      have a := (h x).mp List.mem_cons_self
      have b := (h y).mpr List.mem_cons_self
      rcases List.mem_cons.mp a with a | a
      · exact a
      · rcases List.mem_cons.mp b with b | b
        · exact b.symm
        · have := p1 y b
          have := q1 x a
          omega
    subst e
    rw [rise_ext p2 q2 fun t => ⟨fun ht => ?_, fun ht => ?_⟩]
    · rcases List.mem_cons.mp ((h t).mp (List.mem_cons_of_mem _ ht)) with z | z
      · have := p1 t ht
        omega
      · exact z
    · rcases List.mem_cons.mp ((h t).mpr (List.mem_cons_of_mem _ ht)) with z | z
      · have := q1 t ht
        omega
      · exact z
/-- a step leads from x to t -/
def Edge (steps : List (List Int)) (x t : Int) : Prop := ∃ row, steps[x.toNat]? = some row ∧ t ∈ row
inductive Reach (steps : List (List Int)) (s : Int) : Int → Prop where
  | base : Reach steps s s
  | step {x t : Int} (h : Reach steps s x) (e : Edge steps x t) : Reach steps s t
theorem reach_closed {steps : List (List Int)} {s : Int} {F : List Int} (h0 : s ∈ F) (hc : ∀ x ∈ F, ∀ t, Edge steps x t → t ∈ F) : ∀ t, Reach steps s t → t ∈ F := by
  intro t h
  induction h with
  | base => exact h0
  | step _ e ih => exact hc _ ih _ e
/-- a search: F found so far, W of these still to be looked at -/
structure Srch (steps : List (List Int)) (s : Int) (F W : List Int) : Prop where
  nd : F.Nodup
  s0 : s ∈ F
  re : ∀ x ∈ F, Reach steps s x
  bd : ∀ x ∈ F, 0 ≤ x ∧ x < steps.length
  ww : ∀ x ∈ W, x ∈ F
  wl : W.length ≤ F.length
  cl : ∀ x ∈ F, x ∉ W → ∀ t, Edge steps x t → t ∈ F
theorem nodup_len {F : List Int} {n : Nat} (nd : F.Nodup) (bd : ∀ x ∈ F, 0 ≤ x ∧ x < n) : F.length ≤ n := by
  have := pigeon F ((List.range n).map Int.ofNat) nd fun x hx => by
    have := bd x hx
    exact List.mem_map.mpr ⟨x.toNat, List.mem_range.mpr (by omega), by show ((x.toNat : Nat) : Int) = x; omega⟩
  rw [List.length_map, List.length_range] at this
  exact this
theorem sorted_strict {ys F : List Int} (pm : ys.Perm F) (so : ys.Pairwise (· ≤ ·)) (nd : F.Nodup) : ys.Pairwise (· < ·) :=
  (so.and (pm.nodup_iff.mpr nd)).imp fun {a b} h => by
    have h1 : a ≤ b := h.1
    have h2 : a ≠ b := h.2
    omega
theorem Srch.done {steps : List (List Int)} {s : Int} {F ys : List Int} (S : Srch steps s F []) (pm : ys.Perm F) (so : ys.Pairwise (· ≤ ·)) : RiseI steps.length ys ∧ ∀ t, t ∈ ys ↔ Reach steps s t :=
  ⟨⟨sorted_strict pm so S.nd, fun n hn => S.bd n (pm.mem_iff.mp hn)⟩, fun t => ⟨fun h => S.re t (pm.mem_iff.mp h), fun h => pm.mem_iff.mpr (reach_closed S.s0 (fun x hx => S.cl x hx List.not_mem_nil) t h)⟩⟩
/-- one thing is looked at: F' and W' behind i of its steps -/
structure Look (steps : List (List Int)) (s x : Int) (row : List Int) (i : Nat) (F W : List Int) : Prop where
  nd : F.Nodup
  s0 : s ∈ F
  re : ∀ x ∈ F, Reach steps s x
  bd : ∀ x ∈ F, 0 ≤ x ∧ x < steps.length
  ww : ∀ x ∈ W, x ∈ F
  wl : W.length ≤ F.length
  xf : x ∈ F
  cl : ∀ y ∈ F, y ∉ W → y ≠ x → ∀ t, Edge steps y t → t ∈ F
  tk : ∀ t ∈ row.take i, t ∈ F
theorem Look.yes {steps : List (List Int)} {s x t : Int} {row F W : List Int} {i : Nat} (L : Look steps s x row i F W) (ht : row[i]? = some t) (h : t ∈ F) : Look steps s x row (i + 1) F W :=
  ⟨L.nd, L.s0, L.re, L.bd, L.ww, L.wl, L.xf, L.cl, fun u hu => by
    rw [List.take_add_one, ht] at hu
    rcases List.mem_append.mp hu with hu | hu
    · exact L.tk u hu
    · have : u = t := by simpa using hu
      rw [this]
      exact h⟩
theorem Look.new {steps : List (List Int)} {s x t : Int} {row F W : List Int} {i : Nat} (L : Look steps s x row i F W) (hr : steps[x.toNat]? = some row) (hb : ∀ r ∈ steps, RiseI steps.length r) (ht : row[i]? = some t) (h : t ∉ F) : Look steps s x row (i + 1) (F ++ [t]) (W ++ [t]) := by
  have tr : t ∈ row := List.mem_of_getElem? ht
  have mem : ∀ y ∈ F, y ∈ F ++ [t] := fun y hy => List.mem_append_left _ hy
  refine ⟨?_, mem _ L.s0, fun y hy => ?_, fun y hy => ?_, fun y hy => ?_, by rw [List.length_append, List.length_append]; exact Nat.add_le_add_right L.wl 1, mem _ L.xf, fun y hy hn hx u hu => ?_, fun u hu => ?_⟩
  · rw [List.nodup_append]
    refine ⟨L.nd, by simp, fun y hy z hz e => ?_⟩
    have : z = t := by simpa using hz
    rw [e, this] at hy
    exact h hy
  · rcases List.mem_append.mp hy with hy | hy
    · exact L.re y hy
    · have : y = t := by simpa using hy
      rw [this]
      exact .step (L.re x L.xf) ⟨row, hr, tr⟩
  · rcases List.mem_append.mp hy with hy | hy
    · exact L.bd y hy
    · have : y = t := by simpa using hy
      rw [this]
      exact (hb row (List.mem_of_getElem? hr)).2 t tr
  · rcases List.mem_append.mp hy with hy | hy
    · exact mem y (L.ww y hy)
    · exact List.mem_append_right _ hy
  · rcases List.mem_append.mp hy with hy | hy
    · exact mem u (L.cl y hy (fun z => hn (List.mem_append_left _ z)) hx u hu)
    · exact absurd (List.mem_append_right _ hy) hn
  · rw [List.take_add_one, ht] at hu
    rcases List.mem_append.mp hu with hu | hu
    · exact mem u (L.tk u hu)
    · exact List.mem_append_right _ hu
theorem Look.fin {steps : List (List Int)} {s x : Int} {row F W : List Int} (L : Look steps s x row row.length F W) (hr : steps[x.toNat]? = some row) : Srch steps s F W :=
  ⟨L.nd, L.s0, L.re, L.bd, L.ww, L.wl, fun y hy hn u hu => by
    by_cases e : y = x
    · subst e
      obtain ⟨r, h1, h2⟩ := hu
      rw [hr] at h1
      cases h1
      exact L.tk u (by rw [List.take_length]; exact h2)
    · exact L.cl y hy hn e u hu⟩
theorem Srch.look {steps : List (List Int)} {s x : Int} {F W : List Int} (S : Srch steps s F (W ++ [x])) (row : List Int) : Look steps s x row 0 F W :=
  ⟨S.nd, S.s0, S.re, S.bd, fun y hy => S.ww y (List.mem_append_left _ hy), (by have := S.wl; rw [List.length_append] at this; exact Nat.le_of_succ_le this), S.ww x (by simp), fun y hy hn hx u hu => S.cl y hy (fun z => by
    rcases List.mem_append.mp z with z | z
    · exact hn z
    · exact hx (by simpa using z)) u hu, fun u hu => by simp at hu⟩
theorem Srch.start {steps : List (List Int)} {s : Int} (h : 0 ≤ s ∧ s < steps.length) : Srch steps s [s] [s] :=
  ⟨by simp, by simp, fun x hx => by rw [show x = s by simpa using hx]; exact .base, fun x hx => by rw [show x = s by simpa using hx]; exact h, fun x hx => hx, Nat.le_refl _, fun x hx hn => absurd hx hn⟩

/-! ### reached -/
abbrev sreached : Stmt := topS 16
theorem screached : FnScope ["machine", "standing", "found", "waiting", "to"] ["machine", "standing"] (defScope sreached) := ⟨rfl, rfl, rfl, by decide +kernel, rfl, by decide +kernel, by decide +kernel⟩
section
variable {P : Program} {w : World} {K : PySem.W.Frag} {mg : Str → Option Value} {base : Heap}
def keyI (x : Int) : Key × V := (Sum.inl x, .bl true)
theorem val_key {F : List Int} {t : Int} : (valV (F.map keyI) (Sum.inl t : Key)).isSome = decide (t ∈ F) := by
  induction F with
  | nil => rfl
  | cons x r ih =>
    rw [List.map_cons]
    by_cases h : x = t
    · rw [valV_pos (show (keyI x).1 = Sum.inl t by rw [h]; rfl), decide_eq_true (by rw [h]; exact List.mem_cons_self)]
      rfl
    · rw [valV_neg (show (keyI x).1 ≠ Sum.inl t from fun e => h (Sum.inl.inj e)), ih]
      by_cases h2 : t ∈ r
      · rw [decide_eq_true h2, decide_eq_true (List.mem_cons_of_mem _ h2)]
      · rw [decide_eq_false h2, decide_eq_false fun z => by
          rcases List.mem_cons.mp z with z | z
          · exact h z.symm
          · exact h2 z]
theorem put_key {F : List Int} {t : Int} (h : t ∉ F) : putK (F.map keyI) (Sum.inl t : Key) (.bl true) = (F ++ [t]).map keyI := by
  unfold putK
  rw [if_neg, List.map_append]
  · rfl
  · rw [List.any_map, List.any_eq_true]
    rintro ⟨x, hx, e⟩
    have : x = t := by simpa [keyI] using e
    exact h (by rw [← this]; exact hx)
def spReached (K : PySem.W.Frag) : Sp := fun vs H Q _ => ∃ (m : Addr) (steps : List (List Int)) (marks : List (List Str)) (s : Int), vs = [.ref m, .int s] ∧ MachAt K H m steps marks ∧ (∀ r ∈ steps, RiseI steps.length r) ∧ steps.length ≤ 60 ∧ 0 ≤ s ∧ s < steps.length ∧
  ∀ H' r ns, Same H H' → H' r = some (.tup (ns.map V.int)) → RiseI steps.length ns → (∀ t, t ∈ ns ↔ Reach steps s t) → Q (.ref r) H'
theorem ok_reached {f : Addr} {fd : FuncData} (F : Fun K "reached" "reached" sreached f fd) (T : Bi mg) : FnOk P w K mg base CX0 1 f fd ["machine", "standing"] (spReached K) := by
  refine F.ok screached (fun vs H Q E h => ?_) (fun cdv A outer s H vs Q E hr h => ?_)
  · obtain ⟨m, steps, marks, t, rfl, _⟩ := h
    rfl
  · obtain ⟨m, steps, marks, z, rfl, M, hb, hl, z0, z1, q⟩ := h
    obtain ⟨sA, kA, sa, ka, h1, h2, h3, h4, h5⟩ := M.ex
    have l1 := h4.len
    refine ⟨_, (pss_cons (ps_set (i := 2) screached.nd rfl (.inl rfl) (pe_disp (pps_cons (pv 1) pe_bl pps_nil) (by rfl) (by rfl) (fun z => by cases z) (by decide)))
      (pss_cons (ps_set (i := 3) screached.nd rfl (.inl rfl) (pe_lst (pa_cons (pv 1) pa_nil)))
      (pss_cons (ps_while PassesOwn.never (pt_truth (pv 3) (by intro _; rfl))
        (pss_one (ps_for PassesOwn.never rfl (pi_tup (pe_ix ix_tup (pe_ix ix_tup (pv 0) pe_int (fun _ _ => rfl)) (pe_bm0 PySem.F.plainAttrs_list PySem.F.slot_list_pop PySem.F.type_list_pop mt_pop (pv 3)) (fun _ _ => rfl))) (pg_name (i := 4) screached.nd rfl (.inl rfl))
          (pss_one (ps_if (pt_cmp (pc_dnotin (hu_of hr) (pv 4) (pv 2)))
            (pss_cons (ps_dput (hu_of hr) (pv 2) (pv 4) pe_bl rfl)
            (pss_one (ps_expr (pe_bm PySem.F.plainAttrs_list PySem.F.slot_list_append PySem.F.type_list_append mt_append (pv 3) (pa_cons (pv 4) pa_nil)))))
            pss_nil)))))
      (pss_one (ps_ret (pe_callTy call_tuple_of (by rfl) T.tuple (by decide +kernel) (pa_cons (pe_callB (call_sortedDI rfl) (by rfl) T.sorted (by decide +kernel) (pa_cons (pv 2) pa_nil)) pa_nil))))))), ?_⟩
    -- found, waiting
    refine fun d hd => ⟨_, rfl, upd_same, [keyI z], rfl, by show 1 ≤ 15; decide, _, rfl, by show 1 ≤ sizeLine; decide, fun wt hwt => ?_⟩
    have hwt0 : H wt = none := by
      have n : wt ≠ d := fun e => by
        rw [e, upd_same] at hwt
        cases hwt
      rw [upd_ne n, upd_ne n] at hwt
      exact hwt
    have nwd : d ≠ wt := fun e => by
      rw [← e, upd_same] at hwt
      cases hwt
    refine ⟨fun μ σ H' => ∃ (F W : List Int) (y : Option V), σ = [some (.ref m), some (.int z), some (.ref d), some (.ref wt), y] ∧ H' d = some (.dK (F.map keyI)) ∧ H' wt = some (.lst (W.map V.int)) ∧ Same H H' ∧ Srch steps z F W ∧ μ = 2 * (steps.length - F.length) + W.length,
      ⟨_, [z], [z], none, rfl, ?_, upd_same, ?_, Srch.start ⟨z0, z1⟩, rfl⟩, ?_⟩
    · rw [upd_ne nwd, upd_same]
      rfl
    · exact smut (smut (same_upd hd) hd) hwt0
    · rintro μ σ H1 ⟨F, W, y, rfl, f1, f2, s1, S, rfl⟩
      refine ⟨_, rfl, _, .inl ⟨_, SqL.of f2, rfl⟩, ?_⟩
      rcases List.eq_nil_or_concat W with rfl | ⟨W', x, rfl⟩
      · -- the end
        refine iteF ⟨_, rfl, d, _, F, rfl, .inl f1, by rw [List.map_map]; rfl, ?_, fun ys p pm so hp => ?_⟩
        · have := nodup_len S.nd S.bd
          omega
        · obtain ⟨e1, e2⟩ := S.done pm so
          refine ⟨p, _, rfl, .inl ⟨SqL.of upd_same, fun t ht => q _ t ys ((s1.trans (same_upd hp)).trans (same_upd ht)) upd_same e1 e2⟩⟩
      · rw [List.concat_eq_append] at f2 S ⊢
        have fx := S.ww x (by simp)
        obtain ⟨b0, b1⟩ := S.bd x fx
        obtain ⟨jx, rfl⟩ : ∃ j : Nat, x = (j : Int) := ⟨x.toNat, by omega⟩
        obtain ⟨row, hrow⟩ : ∃ row, steps[jx]? = some row := ⟨_, List.getElem?_eq_getElem (by omega)⟩
        obtain ⟨b, hb1, hb2⟩ := h4.getx hrow
        have hrow' : steps[((jx : Int)).toNat]? = some row := by rw [Int.toNat_natCast]; exact hrow
        have nW : ((W' ++ [(jx : Int)]).map V.int)[((W' ++ [(jx : Int)]).map V.int).length - 1]? = some (.int jx) := by
          rw [List.map_append, List.length_append, List.length_map]
          show (W'.map V.int ++ [V.int jx])[W'.length + 1 - 1]? = _
          rw [Nat.add_sub_cancel, List.getElem?_append_right (by rw [List.length_map]; exact Nat.le_refl _), List.length_map, Nat.sub_self]
          rfl
        have eW : ((W' ++ [(jx : Int)]).map V.int).dropLast = W'.map V.int := by
          rw [List.map_append]
          exact List.dropLast_concat
        rw [show (!((W' ++ [(jx : Int)]).map V.int).isEmpty) = true by cases W' <;> rfl]
        refine iteT ⟨fun σ' H' => ∃ μ', μ' < 2 * (steps.length - F.length) + (W' ++ [(jx : Int)]).length ∧ ∃ (F W : List Int) (y : Option V), σ' = [some (.ref m), some (.int z), some (.ref d), some (.ref wt), y] ∧ H' d = some (.dK (F.map keyI)) ∧ H' wt = some (.lst (W.map V.int)) ∧ Same H H' ∧ Srch steps z F W ∧ μ' = 2 * (steps.length - F.length) + W.length, fun σ' H' h => h, ?_⟩
        have s2 : Same H (L2.upd H1 wt (.lst (((W' ++ [(jx : Int)]).map V.int).dropLast))) := smut s1 hwt0
        refine ⟨_, rfl, m, _, 0, .ref sA, rfl, rfl, ssqt s1 h1, at_of (j := 0) rfl rfl, _, rfl, .inl ⟨rfl, _, SqL.of f2⟩, wt, _, _, rfl, rfl, f2, nW, sA, _, _, .ref b, rfl, rfl, ssqt s2 h2, at_of (j := jx) rfl (get_map hb1), b, rfl, ⟨_, ssqt s2 hb2⟩,
          for_tup (K := K) (a := b) (xs := row.map V.int) (fun i σ H' => ∃ (F2 W2 : List Int) (y : Option V), σ = [some (.ref m), some (.int z), some (.ref d), some (.ref wt), y] ∧ H' d = some (.dK (F2.map keyI)) ∧ H' wt = some (.lst (W2.map V.int)) ∧ Same H H' ∧ Look steps z jx row i F2 W2 ∧ 2 * (steps.length - F2.length) + W2.length < 2 * (steps.length - F.length) + (W' ++ [(jx : Int)]).length)
            ⟨F, W', y, rfl, ?_, ?_, s2, S.look row, by rw [List.length_append]; show _ < _ + (W'.length + 1); omega⟩ (fun i σ H' _ ⟨_, _, _, _, _, _, e, _⟩ => ssqt e hb2) ?_ ?_⟩
        · rw [upd_ne nwd]
          exact f1
        · rw [upd_same, eW]
        · rintro i u σ H3 hi ⟨F2, W2, y2, rfl, g1, g2, s3, L, ms⟩
          obtain ⟨t, ht, rfl⟩ := map_get hi
          refine ⟨_, rfl, _, rfl, d, _, rfl, DGet.k (k := Sum.inl t) g1, _, rfl, ?_⟩
          rw [val_key]
          refine ite2 (fun e => ?_) (fun e => ?_)
          · have nt := notdec e
            have L' := L.new hrow' hb ht nt
            have lF := nodup_len L'.nd L'.bd
            rw [List.length_append] at lF
            have lF' : F2.length + 1 ≤ steps.length := lF
            have s4 : Same H (L2.upd H3 d (.dK ((F2 ++ [t]).map keyI))) := smut s3 hd
            refine ⟨_, rfl, _, rfl, d, _, rfl, DPut.k (k := Sum.inl t) g1 (szLt (by rw [List.length_map]; omega)), ?_⟩
            rw [put_key nt]
            have g2' : L2.upd H3 d (.dK ((F2 ++ [t]).map keyI)) wt = some (.lst (W2.map V.int)) := by
              rw [upd_ne nwd.symm]
              exact g2
            have lW := L.wl
            have lF2 := nodup_len L.nd L.bd
            refine ⟨_, rfl, .inl ⟨rfl, _, SqL.of g2'⟩, _, rfl, wt, _, _, rfl, rfl, g2', szLt (by rw [List.length_map]; omega), F2 ++ [t], W2 ++ [t], some (.int t), rfl, ?_, ?_, smut s4 hwt0, L', ?_⟩
            · rw [upd_ne nwd, upd_same]
            · rw [upd_same, List.map_append]
              rfl
            · rw [List.length_append, List.length_append]
              show 2 * (steps.length - (F2.length + 1)) + (W2.length + 1) < _
              omega
          · exact ⟨F2, W2, some (.int t), rfl, g1, g2, s3, L.yes ht (dec_of e), ms⟩
        · rintro σ H3 ⟨F2, W2, y2, rfl, g1, g2, s3, L, ms⟩
          rw [List.length_map] at L
          exact ⟨_, ms, F2, W2, y2, rfl, g1, g2, s3, L.fin hrow', rfl⟩
end

/-! ### the pool is laid anew -/
section
variable {P : Program} {w : World} {K : PySem.W.Frag} {mg : Str → Option Value} {base : Heap}
def spPoolF (K : PySem.W.Frag) : Sp := fun vs H Q _ => ∃ (l : Addr) (ns : List Int), vs = [.ref l] ∧ SqL K H l (ns.map V.int) ∧ ns.length ≤ 63 ∧ ∀ H' a, Same H H' → (H a.p = none ∧ H a.g = none ∧ H a.s = none) → Pool H' a 0 → Q (.ref a.p) H'
theorem ok_poolF {f : Addr} {fd : FuncData} (F : Fun K "_law_pool" "_law_pool" s_law_pool f fd) : FnOk P w K mg base CX0 1 f fd ["_law_script"] (spPoolF K) := by
  refine F.ok sc_law_pool (fun vs H Q E h => ?_) (fun cdv A outer s H vs Q E hr h => ?_)
  · obtain ⟨l, ns, rfl, _⟩ := h
    rfl
  · obtain ⟨l, ns, rfl, hS, hlen, q⟩ := h
    refine ⟨_, (pss_cons (ps_setLc (i := 1) (own := [("_law_cell", 2)]) (g := gName 2) (by rfl) sc_law_pool.nd rfl rfl (sw_true rfl rfl rfl (by decide +kernel)) (pi_list (pv 0)) (blkOk_by (own := [("_law_cell", 2)]) (N := ["_law_script", "_law_great", "_law_cell"]) (sc := defScope s_law_pool) (by decide +kernel)) (fun _ _ _ _ _ => (pg_name (i := 2) sc_law_pool.nd rfl (.inl rfl))) (fun _ _ _ _ _ => (pts_one (pt_cmpR op_ge (pv 2) (pe_op op_pow pe_int pe_int) (nomark _)))) (fun _ _ _ _ _ => (pv 2)))
      (pss_one (ps_ret (pe_lst (pa_cons (pv 1) (pa_cons (pe_lc (own := [("_law_cell", 2)]) (g := gName 2) rfl sc_law_pool.nd (pi_list (pv 0)) (blkOk_by (own := [("_law_cell", 2)]) (N := ["_law_script", "_law_great", "_law_cell"]) (sc := defScope s_law_pool) (by decide +kernel)) (fun _ _ _ _ _ => (pg_name (i := 2) sc_law_pool.nd rfl (.inl rfl))) (fun _ _ _ _ _ => (pts_one (pt_cmpR op_lt (pv 2) (pe_op op_pow pe_int pe_int) (nomark _)))) (fun _ _ _ _ _ => (pv 2))) (pa_cons pe_int (pa_cons pe_int pa_nil)))))))), ?_⟩
    refine ⟨_, rfl, l, rfl, ⟨_, hS⟩, fun D hD => lc_listS (K := K) (a := l) (xs := ns.map V.int) (fun i acc => ∃ gs : List Int, acc = gs.map V.int) hS hD (by rw [List.length_map]; omega) ⟨[], rfl⟩ (fun _ => rfl) ?_ ?_⟩
    · intro i x H1 acc hx s1 ⟨gs, hg⟩ _ N1 N2 k1 k2
      obtain ⟨z, hz, rfl⟩ := map_get hx
      refine ⟨_, rfl, _, _, rfl, rfl, ⟨by decide, by decide, by decide⟩, _, _, rfl, rfl, _, rfl, ite2 (fun e => ?_) (fun e => ?_)⟩
      · exact ⟨_, rfl, k1 _ _ (Same.refl _) ⟨gs ++ [z], by rw [hg, List.map_append]; rfl⟩⟩
      · exact k2 _ (Same.refl _) ⟨gs, hg⟩
    · intro H1 acc s1 hD1 la ⟨gs, hg⟩
      subst hg
      have hS1 : SqL K H1 l (ns.map V.int) := s1.seq hS
      refine ⟨_, rfl, _, rfl, l, rfl, ⟨_, hS1⟩, fun D2 hD2 => lc_listS (K := K) (a := l) (xs := ns.map V.int) (fun i acc => ∃ gs : List Int, acc = gs.map V.int) hS1 hD2 (by rw [List.length_map]; omega) ⟨[], rfl⟩ (fun _ => rfl) ?_ ?_⟩
      · intro i x H2 acc hx s2 ⟨gs, hg⟩ _ N1 N2 k1 k2
        obtain ⟨z, hz, rfl⟩ := map_get hx
        refine ⟨_, rfl, _, _, rfl, rfl, ⟨by decide, by decide, by decide⟩, _, _, rfl, rfl, _, rfl, ite2 (fun e => ?_) (fun e => ?_)⟩
        · exact ⟨_, rfl, k1 _ _ (Same.refl _) ⟨gs ++ [z], by rw [hg, List.map_append]; rfl⟩⟩
        · exact k2 _ (Same.refl _) ⟨gs, hg⟩
      · intro H2 acc s2 hD2' la2 ⟨ss, hs⟩
        subst hs
        refine ⟨by show 4 ≤ sizeLine; decide, fun p hp => q _ ⟨p, D, D2⟩ ((s1.trans s2).trans (same_upd hp)) ⟨free0 (s1.trans s2) hp, hD, free0 s1 hD2⟩ ⟨gs, ss, 5, 0, upd_same, ?_, ?_, ?_, ?_, by decide, by decide, by decide, by decide, ?_⟩⟩
        · show upd H2 p _ D = _
          rw [upd_ne (ne_of_none (s2 _ _ hD1) hp)]
          exact s2 _ _ hD1
        · show upd H2 p _ D2 = _
          rw [upd_ne (ne_of_none hD2' hp)]
          exact hD2'
        · rw [List.length_map, List.length_map] at la
          omega
        · rw [List.length_map, List.length_map] at la2
          omega
        · exact (ne_of_none hD1 hD2).symm
/-- what stood ahead of the pool stands -/
theorem seq_kp {H H1 H' : Hp} {a : PA} {l : Addr} {xs : List V} (h : SqL K H l xs) (f : H a.p = none ∧ H a.g = none ∧ H a.s = none) (s : Same H H1) (k : Kp a H1 H') : SqL K H' l xs := by
  have off : ∀ o, H l = some o → Off a l := fun o e => ⟨ne_of_none e f.1, ne_of_none e f.2.1, ne_of_none e f.2.2⟩
  rcases h with (h | ⟨o, h⟩) | h
  · exact .inl (.inl (k _ _ (s _ _ h) (off _ h)))
  · exact .inl (.inr ⟨o, k _ _ (s _ _ h) (off _ h)⟩)
  · exact .inr h
end

section
theorem rooms_end {p : Pg} {n : Nat} (hn : (roomsN p n).length = n) : ∀ k, roomsN p (n + k) = roomsN p n
  | 0 => rfl
  | k + 1 => by
    show roomsN p (n + k + 1) = _
    rw [rooms_no (by rw [rooms_end hn k]; exact List.getElem?_eq_none (by omega)), rooms_end hn k]
theorem rooms_one {p : Pg} {n m : Nat} (hn : (roomsN p n).length = n) (hm : (roomsN p m).length = m) : n = m := by
  rcases Nat.le_total n m with h | h
  · have e := rooms_end hn (m - n)
    rw [show n + (m - n) = m by omega] at e
    rw [e] at hm
    omega
  · have e := rooms_end hm (n - m)
    rw [show m + (n - m) = n by omega] at e
    rw [e] at hn
    omega
theorem rooms_i {p : Pg} {n i : Nat} (hn : n ≤ (roomsN p n).length) (hi : i < n) : (roomsN p i)[i]? = (roomsN p n)[i]? := by
  obtain ⟨s, e⟩ := rooms_le p (show i ≤ n by omega)
  cases h2 : (roomsN p i)[i]? with
  | some y => rw [e, List.getElem?_append_left (List.getElem?_eq_some_iff.mp h2).1, h2]
  | none =>
    exfalso
    have hlen : (roomsN p i).length ≤ i := List.getElem?_eq_none_iff.mp h2
    have st : ∀ k, (roomsN p (i + k)) = roomsN p i := by
      intro k
      induction k with
      | zero => rfl
      | succ k ih =>
        show roomsN p (i + k + 1) = _
        rw [rooms_no (by rw [ih]; exact List.getElem?_eq_none (by omega)), ih]
    have := st (n - i)
    rw [show i + (n - i) = n by omega] at this
    rw [this] at hn
    omega
theorem succ_pre {p : Pg} {r : Rm} {j : Nat} (h : j ≤ p.ms.length) : ∃ u, succV p r = (List.range j).filterMap (succO p r) ++ u := by
  refine ⟨((List.range p.ms.length).drop j).filterMap (succO p r), ?_⟩
  unfold succV
  have e := List.take_append_drop j (List.range p.ms.length)
  rw [List.take_range, Nat.min_eq_left h] at e
  rw [← List.filterMap_append, e]
theorem grow_pref {α : Type} [DecidableEq α] (l a u : List α) : ∃ s, growAll l (a ++ u) = growAll l a ++ s := by
  obtain ⟨s, e⟩ := growAll_app u (growAll l a)
  refine ⟨s, ?_⟩
  rw [← e]
  unfold growAll
  rw [List.foldl_append]
end

/-! ### walks of commands -/
abbrev s_law_stands : Stmt := topS 41
theorem sc_law_stands : FnScope ["_law_program_here", "_law_told", "_law_at", "_law_room", "_law_some", "_law_k"] ["_law_program_here", "_law_told", "_law_at", "_law_room"] (defScope s_law_stands) := ⟨rfl, rfl, rfl, by decide +kernel, rfl, by decide +kernel, by decide +kernel⟩
section
variable {P : Program} {w : World} {K : PySem.W.Frag} {mg : Str → Option Value} {base : Heap}
theorem int_same {xs ys : List Int} (h : xs.Perm ys) (hx : xs.Pairwise (· ≤ ·)) (hy : ys.Pairwise (· ≤ ·)) : xs = ys := h.eq_of_pairwise (fun a b _ _ h1 h2 => by omega) hx hy
theorem str_same {xs ys : List Str} (h : xs.Perm ys) (hx : RiseS xs) (hy : RiseS ys) : xs = ys := h.eq_of_pairwise (fun a b _ _ h1 h2 => absurd (List.lt_trans h1 h2) (List.lt_irrefl _)) hx.1 hy.1
theorem Each.choose {α β : Type} {R : Addr → β → Prop} {S : α → β → Prop} : ∀ {as : List Addr} {xs : List α}, Each (fun a x => ∃ y, R a y ∧ S x y) as xs → ∃ ys : List β, Each R as ys ∧ ys.length = xs.length ∧ ∀ (i : Nat) (x : α), xs[i]? = some x → ∃ y, ys[i]? = some y ∧ S x y
  | _, _, .nil => ⟨[], .nil, rfl, fun i x h => by cases h⟩
  | _, _, .cons (x := x0) ⟨y, r, s⟩ t => by
    obtain ⟨ys, e, l, f⟩ := t.choose
    refine ⟨y :: ys, .cons r e, by rw [List.length_cons, List.length_cons, l], fun i x h => ?_⟩
    cases i with
    | zero =>
      cases h
      exact ⟨y, rfl, s⟩
    | succ i => exact f i x h
/-- each room is reached -/
theorem reach_all {p : Pg} {n : Nat} (hn : (roomsN p n).length = n) {steps : List (List Int)} (hs : ∀ (i : Nat) (r : Rm), (roomsN p n)[i]? = some r → ∃ ys, steps[i]? = some ys ∧ StepR p (roomsN p n) r ys) : ∀ k, k ≤ n → ∀ i, i < (roomsN p k).length → Reach steps 0 ((i : Nat) : Int)
  | 0, _, i, hi => by
    have hi : i < 1 := hi
    rw [show i = 0 by omega]
    exact .base
  | k + 1, hk, i, hi => by
    have ih := reach_all hn hs k (by omega)
    by_cases hik : i < (roomsN p k).length
    · exact ih i hik
    obtain ⟨r, hr⟩ : ∃ r, (roomsN p k)[k]? = some r := by
      cases h : (roomsN p k)[k]? with
      | some r => exact ⟨r, rfl⟩
      | none =>
        rw [rooms_no h] at hi
        exact absurd hi hik
    have hkl := (List.getElem?_eq_some_iff.mp hr).1
    have eW := rooms_at hr
    have hri := rooms_i (p := p) (n := n) (by omega) (show k < n by omega)
    rw [hr] at hri
    obtain ⟨x, hx⟩ : ∃ x, (roomsN p (k + 1))[i]? = some x := ⟨_, List.getElem?_eq_getElem hi⟩
    obtain ⟨s, es⟩ := rooms_le p hk
    have hxn : (roomsN p n)[i]? = some x := by rw [es, List.getElem?_append_left hi, hx]
    have hxs : x ∈ succV p r := by
      have hm := List.mem_of_getElem? hx
      rw [eW] at hm
      rcases (growAll_mem _).mp hm with h | h
      · obtain ⟨j, hj⟩ := List.mem_iff_getElem?.mp h
        have hjl := (List.getElem?_eq_some_iff.mp hj).1
        obtain ⟨s2, es2⟩ := rooms_step p k
        have hj2 : (roomsN p (k + 1))[j]? = some x := by rw [es2, List.getElem?_append_left hjl, hj]
        have := (List.getElem?_inj (by rw [es2, List.length_append]; omega) (rooms_nodup p (k + 1))).mp (hj2.trans hx.symm)
        omega
      · exact h
    obtain ⟨ys, hy, st⟩ := hs k r hri.symm
    refine .step (ih k hkl) ⟨ys, by rw [Int.toNat_natCast]; exact hy, ?_⟩
    refine st.2.1.mem_iff.mpr ((growAll_mem _).mpr (.inr (List.mem_map.mpr ⟨x, hxs, ?_⟩)))
    unfold ixI
    rw [ix_at (rooms_nodup p n) hxn]
theorem grow_pos {T : List Int} {ys : List Int} (h : ys.Perm (growAll [] T)) : 0 < ys.length ↔ 0 < T.length := by
  rw [List.length_pos_iff_exists_mem, List.length_pos_iff_exists_mem]
  refine exists_congr fun a => ?_
  rw [h.mem_iff, growAll_mem]
  exact ⟨fun h => h.resolve_left List.not_mem_nil, .inr⟩
def someB (p : Pg) (r : Rm) (j : Nat) : Bool := (succO p r j).isSome
theorem some_pos (p : Pg) (r : Rm) : 0 < ((List.range p.ms.length).filter (someB p r)).length ↔ 0 < (succV p r).length := by
  rw [List.length_pos_iff_exists_mem, List.length_pos_iff_exists_mem]
  constructor
  · rintro ⟨j, hj⟩
    obtain ⟨hj1, hj2⟩ := List.mem_filter.mp hj
    obtain ⟨x, hx⟩ := Option.isSome_iff_exists.mp hj2
    exact ⟨x, List.mem_filterMap.mpr ⟨j, hj1, hx⟩⟩
  · rintro ⟨x, hx⟩
    obtain ⟨j, hj, e⟩ := List.mem_filterMap.mp hx
    exact ⟨j, List.mem_filter.mpr ⟨hj, by unfold someB; rw [e]; rfl⟩⟩
def spSt (K : PySem.W.Frag) : Sp := fun vs H Q _ => ∃ (a v b : Addr) (p : Pg) (n i : Nat) (r : Rm), vs = [.ref a, .ref v, .int (i : Nat), .ref b] ∧ PgAt K H a p ∧ GoodPg p ∧ (roomsN p n).length = n ∧ n ≤ 40 ∧ LayAt K H v p (roomsN p n) ∧ (roomsN p n)[i]? = some r ∧ SqT K H b (r.map V.int) ∧ ∀ H', Same H H' → Q (.bl true) H'
theorem ok_st {f : Addr} {fd : FuncData} (F : Fun K "_law_stands" "_law_stands" s_law_stands f fd) (T : Bi mg) (c_law_next_room : Cal P w K mg base 3 "_law_next_room" ["_law_program_here", "_law_k", "_law_room"] (spLN K)) (c_law_worn : Cal P w K mg base 4 "_law_worn" ["_law_program_here", "_law_room"] (spNI K)) (c_law_same : Cal P w K mg base 3 "_law_same" ["_law_found", "_law_due"] (spSm K 1)) :
    FnOk P w K mg base CX0 5 f fd ["_law_program_here", "_law_told", "_law_at", "_law_room"] (spSt K) := by
  refine F.ok sc_law_stands (fun vs H Q E h => ?_) (fun cdv A outer s H vs Q E hr h => ?_)
  · obtain ⟨a, v, b, p, n, i, r, rfl, _⟩ := h
    rfl
  · obtain ⟨a, v, b, p, n, i, r, rfl, x, G, hn, n40, y, hr2, hb0, q⟩ := h
    obtain ⟨c, ma, kk, xc, xm, xk, g1, g2, g3, hm, g5, g6, g7⟩ := x.ex
    obtain ⟨m, rr, s0, k1, rs, ss, ks2, h1, h2, h3, h4, hfz, h6, h7, h8⟩ := y.ex
    have h1 := SqT.of (K := K) h1
    have h2 := SqT.of (K := K) h2
    have h3 := SqT.of (K := K) h3
    have h4 := SqT.of (K := K) h4
    have h5 := hfz.sq (K := K)
    have elm : xm.length = p.ms.length := g5.len
    have m8 := G.m8
    have R := rooms_ok G n r (List.mem_of_getElem? hr2)
    obtain ⟨rb, hrb, hrr⟩ := h6.getx hr2
    obtain ⟨u, hu, ys, hur, hys⟩ := h7.getx hr2
    obtain ⟨z, hz, zs, hzr, hzp, hzs⟩ := h8.getx hr2
    have hrr := SqT.of (K := K) hrr
    have hur := SqT.of (K := K) hur
    have hzr := SqT.of (K := K) hzr
    have wl := worn_len G (r := r)
    have zl := hzp.length_eq
    have epos : (0 < ((List.range p.ms.length).filter (someB p r)).length) ↔ 0 < ys.length := by
      rw [some_pos, grow_pos hys.2.1, List.length_map]
    refine ⟨_, (pss_cons (ps_setLc (i := 4) (own := [("_law_k", 5)]) (g := gName 5) (by rfl) sc_law_stands.nd rfl rfl (sw_true rfl rfl rfl (by decide +kernel)) (pi_range1 (by rfl) T.range (pa_cons (pe_callB call_lenX (by rfl) T.len PySem.boot_len (pa_cons (pe_ix ix_tup (pv 0) pe_int (fun _ _ => rfl)) pa_nil)) pa_nil)) (blkOk_by (own := [("_law_k", 5)]) (N := ["_law_program_here", "_law_told", "_law_at", "_law_room", "_law_some", "_law_k"]) (sc := defScope s_law_stands) (by decide +kernel)) (fun _ _ _ _ _ => (pg_name (i := 5) sc_law_stands.nd rfl (.inl rfl))) (fun _ _ _ _ _ => (pts_one (pt_cmpR op_notN (pe_call c_law_next_room.G (hr.mono (by decide)) (by rfl) c_law_next_room.g c_law_next_room.kp c_law_next_room.b .nil pass0 (pa_cons (pv 0) (pa_cons (pv 5) (pa_cons (pv 3) pa_nil)))) pe_non (nomark _)))) (fun _ _ _ _ _ => (pv 5)))
      (pss_cons (ps_if (PW.pt (pw_or (pt_cmpR (op_neD hr.units) (pe_ix ix_tup (pe_ix ix_tup (pv 1) pe_int (fun _ _ => rfl)) (pv 2) (fun _ _ => rfl)) (pv 3) (nomark _)) (pw_or1 (pt_cmpR op_ne (pe_cmpR op_gt (pe_callB call_len_seq (by rfl) T.len PySem.boot_len (pa_cons (pv 4) pa_nil)) pe_int (nomark _)) (pe_cmpR op_gt (pe_callB call_len_seq (by rfl) T.len PySem.boot_len (pa_cons (pe_ix ix_tup (pe_ix ix_tup (pe_ix ix_tup (pv 1) pe_int (fun _ _ => rfl)) pe_int (fun _ _ => rfl)) (pv 2) (fun _ _ => rfl)) pa_nil)) pe_int (nomark _)) (nomark _)))))
        (pss_one (ps_ret pe_bl))
        pss_nil)
      (pss_one (ps_ret (pe_call c_law_same.G (hr.mono (by decide)) (by rfl) c_law_same.g c_law_same.kp c_law_same.b .nil pass0 (pa_cons (pe_ix ix_tup (pe_ix ix_tup (pe_ix ix_tup (pv 1) pe_int (fun _ _ => rfl)) pe_int (fun _ _ => rfl)) (pv 2) (fun _ _ => rfl)) (pa_cons (pe_call c_law_worn.G hr (by rfl) c_law_worn.g c_law_worn.kp c_law_worn.b .nil pass0 (pa_cons (pv 0) (pa_cons (pv 3) pa_nil))) pa_nil))))))), ?_⟩
    refine ⟨_, rfl, a, _, 1, _, rfl, rfl, g1, at_of (j := 1) rfl rfl, .inr ⟨ma, _, rfl, .inr hm, _, rfl, by omega, by omega, fun D hD => lc_rangeS (lo := 0) (n := ((xm.length : Nat) : Int).toNat) (fun j acc => acc = (((List.range j).filter (someB p r)).map fun (k : Nat) => V.int (k : Int))) hD (by omega) rfl (fun _ => rfl) (fun j H1 acc hj s1 hacc _ N1 N2 k1 k2 => ?_) (fun H1 acc s1 hD1 _ hok => ?_)⟩⟩
    · rw [Int.toNat_natCast] at hj
      have e1 : (0 : Int) + (j : Int) = ((j : Nat) : Int) := Int.zero_add _
      rw [e1]
      subst hacc
      have st : (List.range (j + 1)).filter (someB p r) = (List.range j).filter (someB p r) ++ if someB p r j = true then [j] else [] := by
        rw [List.range_succ, List.filter_append]
        congr 1
        rw [List.filter_cons, List.filter_nil]
      refine ⟨_, rfl, _, rfl, _, rfl, a, b, p, j, r, rfl, x.same s1, G, ssqt s1 hb0, R, by omega, fun hnone H9 s9 => ?_, fun x2 hx2 H9 c s9 hc9 => ?_⟩
      · have e : someB p r j = false := by unfold someB; rw [hnone]; rfl
        rw [e, if_neg (by decide), List.append_nil] at st
        exact ⟨rfl, _, rfl, iteF (k2 _ s9 (by rw [st]))⟩
      · have e : someB p r j = true := by unfold someB; rw [hx2]; rfl
        rw [e, if_pos rfl] at st
        exact ⟨rfl, _, rfl, iteT ⟨_, rfl, k1 _ _ s9 (by rw [st, List.map_append]; rfl)⟩⟩
    · rw [Int.toNat_natCast, elm] at hok
      subst hok
      refine ⟨_, rfl, v, _, 1, _, rfl, rfl, ssqt s1 h1, at_of (j := 1) rfl rfl, _, rfl, rr, _, _, _, rfl, rfl, ssqt s1 h5, atI_nat (get_map hrb), _, rfl, _, _, dp_intsT (ssqt s1 hrr), dp_intsT (ssqt s1 hb0), shaped_intsT _, shaped_intsT _, _, rfl, ?_⟩
      rw [eqv_intsT, decide_eq_true rfl]
      refine iteF ⟨_, rfl, D, _, rfl, .inl (SqL.of hD1), _, _, rfl, rfl, _, rfl, v, _, 0, _, rfl, rfl, ssqt s1 h1, at_of (j := 0) rfl rfl, m, _, 0, _, rfl, rfl, ssqt s1 h2, at_of (j := 0) rfl rfl, _, rfl, s0, _, _, _, rfl, rfl, ssqt s1 h3, atI_nat (get_map hu), u, _, rfl, .inr (ssqt s1 hur), _, _, rfl, rfl, ?_⟩
      rw [List.length_map, List.length_map]
      have eb : decide ((0 : Int) < ((((List.range p.ms.length).filter (someB p r)).length : Nat) : Int)) = decide ((0 : Int) < ((ys.length : Nat) : Int)) := by
        by_cases h : 0 < ys.length
        · rw [decide_eq_true (by omega), decide_eq_true]
          have := epos.mpr h
          omega
        · rw [decide_eq_false (by omega), decide_eq_false]
          intro h2
          exact h (epos.mp (by omega))
      refine ⟨rfl, _, rfl, ?_⟩
      rw [show (decide ((fun i j => V.bl (decide (j < i))) ((((List.range p.ms.length).filter (someB p r)).length : Nat) : Int) 0 = (fun i j => V.bl (decide (j < i))) ((ys.length : Nat) : Int) 0)) = true from decide_eq_true (congrArg V.bl eb)]
      refine iteF ⟨_, rfl, v, _, 0, _, rfl, rfl, ssqt s1 h1, at_of (j := 0) rfl rfl, m, _, 1, _, rfl, rfl, ssqt s1 h2, at_of (j := 1) rfl rfl, _, rfl, k1, _, _, _, rfl, rfl, ssqt s1 h4, atI_nat (get_map hz), _, rfl, _, rfl, a, b, p, r, rfl, x.same s1, G, ssqt s1 hb0, R, fun H11 c2 zs2 s11 hc2 hp3 hs3 => ?_⟩
      have ezs : zs2 = zs := str_same (hp3.trans hzp.symm) hs3 hzs
      subst ezs
      exact ⟨_, _, rfl, Sm.strs (ssqt s11 (ssqt s1 hzr)) (SqT.of hc2) (by omega), q _ (s1.trans s11)⟩
end

/-! ### the law -/
abbrev slaw : Stmt := topS 42
theorem sclaw : FnScope ["_law_script", "_law_pool_here", "_law_program_here", "_law_told", "_law_rooms", "_law_many", "_law_at", "_law_room", "_law_cell", "_law_to"] ["_law_script"] (defScope slaw) := ⟨rfl, rfl, rfl, by decide +kernel, rfl, by decide +kernel, by decide +kernel⟩
section
variable {P : Program} {w : World} {K : PySem.W.Frag} {mg : Str → Option Value} {base : Heap}
def spLaw (K : PySem.W.Frag) : Sp := fun vs H Q _ => ∃ (l : Addr) (ns : List Int), vs = [.ref l] ∧ SqL K H l (ns.map V.int) ∧ ns.length ≤ 63 ∧ ∀ H', Q (.bl true) H'
theorem few_of {p : Pg} (G : GoodPg p) {k : Int} {m : Nat} (hp : prodI p.cs * (if p.keeps = true then (p.ms.length : Int) + 1 else 1) ≤ k) (hk : k ≤ (m : Nat)) (n : Nat) : (roomsN p n).length ≤ m := by
  have h1 := rooms_few G n
  omega
theorem pg_of {H : Hp} {a : Addr} {va vb vd : V} {cs ms ks : List Th} {keeps : Bool} (t0 : SqT K H a [va, vb, vd, .bl keeps]) (t1 : TAt 10 K H va (.tup cs)) (t2 : TAt 10 K H vb (.tup ms)) (t3 : TAt 10 K H vd (.tup ks)) : PgAt K H a ⟨cs, ms, ks, keeps⟩ := by
  obtain ⟨ca, xc, rfl, hc, _, call⟩ := tupL t1
  obtain ⟨ma, xm, rfl, hm, _, mall⟩ := tupL t2
  obtain ⟨ka, xk, rfl, hk, _, kall⟩ := tupL t3
  exact ⟨ca, ma, ka, xc, xm, xk, t0, hc, call, hm, mall, hk, kall⟩
theorem PgAt.tk {H H' : Hp} {a : Addr} {p : Pg} (x : PgAt K H a p) (t : Tk K H H') : PgAt K H' a p := by
  obtain ⟨c, m, k, xc, xm, xk, h1, h2, h3, h4, h5, h6, h7⟩ := x.ex
  exact ⟨c, m, k, xc, xm, xk, t.t _ _ h1, t.t _ _ h2, h3.tk t, t.t _ _ h4, h5.tk t, t.t _ _ h6, h7.tk t⟩
theorem rise_range {n : Nat} {ns : List Int} (h : RiseI n ns) (all : ∀ i : Nat, i < n → ((i : Nat) : Int) ∈ ns) : ns = (List.range n).map fun (i : Nat) => (i : Int) := by
  refine rise_ext h.1 ?_ fun t => ⟨fun ht => ?_, fun ht => ?_⟩
  · exact List.pairwise_map.mpr (List.pairwise_lt_range.imp fun {a b} h => by omega)
  · have := h.2 t ht
    exact List.mem_map.mpr ⟨t.toNat, List.mem_range.mpr (by omega), by omega⟩
  · obtain ⟨i, hi, rfl⟩ := List.mem_map.mp ht
    exact all i (List.mem_range.mp hi)
theorem ok_law {f : Addr} {fd : FuncData} (F : Fun K "law" "law" slaw f fd) (T : Bi mg) (S : XOne K mg "TooGreat") (c_law_pool : Cal P w K mg base 1 "_law_pool" ["_law_script"] (spPoolF K))
    (c_law_program : Cal P w K mg base 6 "_law_program" ["_law_pool_here", "_law_room", "_law_commands", "_law_marks_here"] (spLProgram K)) (clay : CalKX P w K mg base 7 "lay" ["program", "most"] (spLay K S.R) 1 ["most"] [V.int 40]) (c_law_good_layout : Cal P w K mg base 3 "_law_good_layout" ["_law_program_here", "_law_told"] (spGL K))
    (c_law_first_room : Cal P w K mg base 1 "_law_first_room" ["_law_program_here"] (spFR K)) (c_law_stands : Cal P w K mg base 5 "_law_stands" ["_law_program_here", "_law_told", "_law_at", "_law_room"] (spSt K)) (c_law_next_room : Cal P w K mg base 3 "_law_next_room" ["_law_program_here", "_law_k", "_law_room"] (spLN K))
    (creached : Cal P w K mg base 1 "reached" ["machine", "standing"] (spReached K)) (c_law_same : Cal P w K mg base 3 "_law_same" ["_law_found", "_law_due"] (spSm K 1)) :
    FnOk P w K mg base CX0 8 f fd ["_law_script"] (spLaw K) := by
  refine F.ok sclaw (fun vs H Q E h => ?_) (fun cdv A outer s H vs Q E hr h => ?_)
  · obtain ⟨l, ns, rfl, _⟩ := h
    rfl
  · obtain ⟨l, ns, rfl, hS, hlen, q⟩ := h
    refine ⟨_, (pss_cons (ps_set (i := 1) sclaw.nd rfl (.inl rfl) (pe_call c_law_pool.G (hr.mono (by decide)) (by rfl) c_law_pool.g c_law_pool.kp c_law_pool.b .nil pass0 (pa_cons (pv 0) pa_nil)))
      (pss_cons (ps_set (i := 2) sclaw.nd rfl (.inl rfl) (pe_call c_law_program.G (hr.mono (by decide)) (by rfl) c_law_program.g c_law_program.kp c_law_program.b .nil pass0 (pa_cons (pv 1) (pa_cons pe_int (pa_cons pe_int (pa_cons pe_int pa_nil))))))
      (pss_cons (ps_set (i := 3) sclaw.nd rfl (.inl rfl) (pe_call clay.G hr (by rfl) clay.g clay.kp clay.b clay.rd passX (pa_cons (pv 2) pa_nil)))
      (pss_cons (ps_if (pt_not (pt_val (pe_call c_law_good_layout.G (hr.mono (by decide)) (by rfl) c_law_good_layout.g c_law_good_layout.kp c_law_good_layout.b .nil pass0 (pa_cons (pv 2) (pa_cons (pv 3) pa_nil)))))
        (pss_one (ps_ret pe_bl))
        pss_nil)
      (pss_cons (ps_set (i := 4) sclaw.nd rfl (.inl rfl) (pe_ix ix_tup (pv 3) pe_int (fun _ _ => rfl)))
      (pss_cons (ps_set (i := 5) sclaw.nd rfl (.inl rfl) (pe_callB call_lenX (by rfl) T.len PySem.boot_len (pa_cons (pe_ix ix_tup (pv 2) pe_int (fun _ _ => rfl)) pa_nil)))
      (pss_cons (ps_set (i := 6) sclaw.nd rfl (.inl rfl) pe_int)
      (pss_cons (ps_set (i := 7) sclaw.nd rfl (.inl rfl) (pe_call c_law_first_room.G (hr.mono (by decide)) (by rfl) c_law_first_room.g c_law_first_room.kp c_law_first_room.b .nil pass0 (pa_cons (pv 2) pa_nil)))
      (pss_cons (ps_for PassesOwn.never rfl (pi_list (pe_slice sl_list (pv 0) po_none (po_some pe_int))) (pg_name (i := 8) sclaw.nd rfl (.inl rfl))
        (pss_cons (ps_if (pt_not (pt_val (pe_call c_law_stands.G (hr.mono (by decide)) (by rfl) c_law_stands.g c_law_stands.kp c_law_stands.b .nil pass0 (pa_cons (pv 2) (pa_cons (pv 3) (pa_cons (pv 6) (pa_cons (pv 7) pa_nil)))))))
          (pss_one (ps_ret pe_bl))
          pss_nil)
        (pss_one (ps_if (pt_cmpR op_gt (pv 5) pe_int (nomark _))
          (pss_cons (ps_set (i := 9) sclaw.nd rfl (.inl rfl) (pe_call c_law_next_room.G (hr.mono (by decide)) (by rfl) c_law_next_room.g c_law_next_room.kp c_law_next_room.b .nil pass0 (pa_cons (pv 2) (pa_cons (pe_op op_mod (pv 8) (pv 5)) (pa_cons (pv 7) pa_nil)))))
          (pss_one (ps_if (pt_cmpR op_notN (pv 9) pe_non (nomark _))
            (pss_cons (ps_if (PW.pt (pw_or (pt_cmpR (TIX.op_ninT (TIX.un65 hr)) (pv 9) (pv 4) (by rfl)) (pw_or1 (pt_cmpR op_notIn_seq (TIX.pe_tidx (TIX.un65 hr) (pv 4) (pa_cons (pv 9) pa_nil)) (pe_ix ix_tup (pe_ix ix_tup (pe_ix ix_tup (pv 3) pe_int (fun _ _ => rfl)) pe_int (fun _ _ => rfl)) (pv 6) (fun _ _ => rfl)) (by rfl)))))
              (pss_one (ps_ret pe_bl))
              pss_nil)
            (pss_cons (ps_set (i := 6) sclaw.nd rfl (.inl rfl) (TIX.pe_tidx (TIX.un65 hr) (pv 4) (pa_cons (pv 9) pa_nil)))
            (pss_one (ps_set (i := 7) sclaw.nd rfl (.inl rfl) (pv 9)))))
            pss_nil)))
          pss_nil))))
      (pss_cons (ps_if (pt_not (pt_val (pe_call c_law_stands.G (hr.mono (by decide)) (by rfl) c_law_stands.g c_law_stands.kp c_law_stands.b .nil pass0 (pa_cons (pv 2) (pa_cons (pv 3) (pa_cons (pv 6) (pa_cons (pv 7) pa_nil)))))))
        (pss_one (ps_ret pe_bl))
        pss_nil)
      (pss_one (ps_ret (pe_call c_law_same.G (hr.mono (by decide)) (by rfl) c_law_same.g c_law_same.kp c_law_same.b .nil pass0 (pa_cons (pe_call creached.G (hr.mono (by decide)) (by rfl) creached.g creached.kp creached.b .nil pass0 (pa_cons (pe_ix ix_tup (pv 3) pe_int (fun _ _ => rfl)) (pa_cons pe_int pa_nil))) (pa_cons (pe_tupRg rfl (by rfl) T.tuple (prg_1 (by rfl) T.range (pe_callB call_len_seq (by rfl) T.len PySem.boot_len (pa_cons (pv 4) pa_nil)))) pa_nil))))))))))))))), ?_⟩
    refine ⟨_, rfl, l, ns, rfl, hS, hlen, fun H1 PL s1 fr P1 => ?_⟩
    refine ⟨_, rfl, PL, 0, 40, 8, 4, rfl, P1, by decide, by decide, by decide, by decide, by decide, fun H2 a va vb vd cs ms ks keeps P2 K2 t0 t1 t2 t3 hgood lm lk hprod => ?_⟩
    have G : GoodPg ⟨cs, ms, ks, keeps⟩ := good_pg hgood
    have few := few_of G (m := 40) hprod (by decide)
    have x := pg_of t0 t1 t2 t3
    have hS := seq_kp hS fr s1 K2
    clear t0 t1 t2 t3 hgood hprod
    generalize (⟨cs, ms, ks, keeps⟩ : Pg) = p at G few x
    refine ⟨_, rfl, a, 40, p, rfl, x, G, by decide, by decide, fun H3 v n s3 hn hm y => ?_, fun n hn => absurd hn (by have := few n; omega)⟩
    refine ⟨_, rfl, _, rfl, a, v, p, n, rfl, x.same s3, G, hn, hm, y, fun H4 s4 => ⟨_, rfl, iteF ?_⟩⟩
    have y := y.same s4
    have x := x.same (s3.trans s4)
    have hS := (s3.trans s4).seq hS
    clear s3 s4
    obtain ⟨c, ma, kk, xc, xm, xk, g1, g2, g3, hma, g5, g6, g7⟩ := x.ex
    obtain ⟨m, rr, s0, k1, rs, ss, ks2, h1, h2, h3, h4, hfz, h6, h7, h8⟩ := y.ex
    have h1 := SqT.of (K := K) h1
    have h2 := SqT.of (K := K) h2
    have h3 := SqT.of (K := K) h3
    have h4 := SqT.of (K := K) h4
    have h5 := hfz.sq (K := K)
    have elm : xm.length = p.ms.length := g5.len
    have m8 := G.m8
    have lrs := h6.len
    have lrs2 : (rs.map V.ref).length = n := by rw [List.length_map, lrs, hn]
    have np := rooms_pos p n
    refine ⟨_, rfl, v, _, 1, _, rfl, rfl, h1, at_of (j := 1) rfl rfl, ?_⟩
    refine ⟨_, rfl, a, _, 1, _, rfl, rfl, g1, at_of (j := 1) rfl rfl, .inr ⟨ma, _, rfl, .inr hma, ?_⟩⟩
    rw [elm]
    refine ⟨_, rfl, a, p, rfl, x, G, fun H5 b0 s5 hb0 => ?_⟩
    have hS5 := s5.seq hS
    refine ⟨_, rfl, 63, rfl, l, _, rfl, hS5, fun C hC => ?_⟩
    have sC := same_upd (o := .lst (cutV (ns.map V.int) none (some (63 : Int)))) hC
    have hC6 : (L2.upd H5 C (.lst (cutV (ns.map V.int) none (some (63 : Int))))) C = some (.lst ((ns.take 63).map V.int)) := by
      rw [upd_same, show cutV (ns.map V.int) none (some (63 : Int)) = _ from cut_to' _ 63, List.map_take]
    generalize (L2.upd H5 C (.lst (cutV (ns.map V.int) none (some (63 : Int))))) = H6 at sC hC6
    have s6 := s5.trans sC
    have hb6 := sC _ _ hb0
    obtain ⟨sW, eW⟩ := rooms_le p (Nat.zero_le n)
    have hr0 : (roomsN p n)[0]? = some (firstV p) := by rw [eW]; rfl
    refine ⟨C, rfl, ⟨_, SqL.of hC6⟩, for_list (K := K) (a := C) (xs := (ns.take 63).map V.int) (fun i σ H' => ∃ (at_ : Nat) (b : Addr) (r : Rm) (y8 y9 : Option V), σ = [some (.ref l), some (.ref PL.p), some (.ref a), some (.ref v), some (.ref rr), some (.int (p.ms.length : Nat)), some (.int (at_ : Nat)), some (.ref b), y8, y9] ∧ Same H4 H' ∧ H' C = some (.lst ((ns.take 63).map V.int)) ∧ (roomsN p n)[at_]? = some r ∧ SqT K H' b (r.map V.int))
      ⟨0, b0, firstV p, _, _, rfl, s6, hC6, hr0, SqT.of hb6⟩ (fun i σ H' _ ⟨_, _, _, _, _, _, _, e, _⟩ => SqL.of e) ?_ ?_⟩
    · rintro i v2 σ H7 hi ⟨at_, b, r, y8, y9, rfl, s7, c7, hr2, hb7⟩
      obtain ⟨z, hz, rfl⟩ := map_get hi
      have R := rooms_ok G n r (List.mem_of_getElem? hr2)
      refine ⟨_, rfl, _, rfl, _, rfl, _, rfl, a, v, b, p, n, at_, r, rfl, x.same s7, G, hn, hm, y.same s7, hr2, hb7, fun H8 s8 => ⟨_, rfl, iteF ?_⟩⟩
      have s48 := s7.trans s8
      have c8 := s8 _ _ c7
      have hb8 := ssqt s8 hb7
      refine ⟨_, rfl, _, _, rfl, rfl, _, rfl, ?_⟩
      by_cases hms : 0 < p.ms.length
      · rw [decide_eq_true (show (0 : Int) < ((p.ms.length : Nat) : Int) by omega)]
        obtain ⟨j, hj, hlt⟩ : ∃ j : Nat, z % ((p.ms.length : Nat) : Int) = ((j : Nat) : Int) ∧ j < p.ms.length := by
          have h1 := Int.emod_lt_of_pos z (show (0 : Int) < ((p.ms.length : Nat) : Int) by omega)
          have h2 := Int.emod_nonneg z (show ((p.ms.length : Nat) : Int) ≠ 0 by omega)
          exact ⟨(z % ((p.ms.length : Nat) : Int)).toNat, by omega, by omega⟩
        refine iteT ⟨_, rfl, _, rfl, _, rfl, _, _, rfl, rfl, by show (0 : Int) < ((p.ms.length : Nat) : Int); omega, _, rfl, a, b, p, j, r, by show [V.ref a, V.int (z % ((p.ms.length : Nat) : Int)), V.ref b] = _; rw [hj], x.same s48, G, hb8, R, hlt, fun hnone H9 s9 => ?_, fun x2 hx2 H9 c9 s9 hc9 => ?_⟩
        · exact ⟨_, rfl, rfl, _, rfl, iteF ⟨at_, b, r, _, _, rfl, s48.trans s9, s9 _ _ c8, hr2, ssqt s9 hb8⟩⟩
        · have s49 := s48.trans s9
          obtain ⟨u, hu, ys, hur, hys⟩ := h7.getx hr2
          have hW : x2 ∈ roomsN p n := hys.1 x2 (List.mem_filterMap.mpr ⟨_, List.mem_range.mpr hlt, hx2⟩)
          have hix : ((ixOf (roomsN p n) x2 : Nat) : Int) ∈ ys := hys.2.1.mem_iff.mpr ((growAll_mem _).mpr (.inr (List.mem_map.mpr ⟨x2, List.mem_filterMap.mpr ⟨_, List.mem_range.mpr hlt, hx2⟩, rfl⟩)))
          have hur := SqT.of (K := K) hur
          have h69 : Each (fun u (x : Rm) => SqT K H9 u (x.map V.int)) rs (roomsN p n) := h6.imp fun b (x : Rm) h => SqT.of (s49 _ _ h)
          have hc9 := SqT.of (K := K) hc9
          refine ⟨_, rfl, rfl, _, rfl, iteT ⟨_, rfl, _, rfl, _, _, dp_intsT hc9, .tup (ssqt s49 h5) (TIX.dp_rooms h69), shaped_intsT _, TIX.shaped_rooms _, _, rfl, ?_⟩⟩
          rw [any_rooms, decide_eq_true hW]
          refine iteF ⟨_, rfl, rr, _, rfl, hfz.same s49, _, rfl, c9, rs, roomsN p n, x2, rfl, hfz.same s49, h69, hc9, hW, _, rfl, v, _, 0, _, rfl, rfl, ssqt s49 h1, at_of (j := 0) rfl rfl, m, _, 0, _, rfl, rfl, ssqt s49 h2, at_of (j := 0) rfl rfl, _, rfl, s0, _, _, _, rfl, rfl, ssqt s49 h3, atI_nat (get_map hu), u, _, rfl, .inr (ssqt s49 hur), rfl, flat_int _, _, rfl, ?_⟩
          rw [inV_int, decide_eq_true hix]
          refine iteF ⟨_, rfl, rr, _, rfl, hfz.same s49, _, rfl, c9, rs, roomsN p n, x2, rfl, hfz.same s49, h69, hc9, hW, ?_⟩
          exact ⟨_, rfl, ixOf (roomsN p n) x2, c9, x2, _, _, rfl, s49, s9 _ _ c8, ix_get hW, hc9⟩
      · rw [decide_eq_false (show ¬ (0 : Int) < ((p.ms.length : Nat) : Int) by omega)]
        exact iteF ⟨at_, b, r, _, _, rfl, s48, c8, hr2, hb8⟩
    · rintro σ H7 ⟨at_, b, r, y8, y9, rfl, s7, c7, hr2, hb7⟩
      refine ⟨_, rfl, _, rfl, _, rfl, _, rfl, a, v, b, p, n, at_, r, rfl, x.same s7, G, hn, hm, y.same s7, hr2, hb7, fun H8 s8 => ⟨_, rfl, iteF ?_⟩⟩
      have s48 := s7.trans s8
      obtain ⟨steps, est, lst, fst⟩ := Each.choose h7
      obtain ⟨marks, emk, lmk, fmk⟩ := Each.choose h8
      have M : MachAt K H8 m steps marks := ⟨s0, k1, ss, ks2, ssqt s48 h2, ssqt s48 h3, ssqt s48 h4, est.imp fun b (ys : List Int) h => ssqt s48 (SqT.of h), emk.imp fun b (zs : List Str) h => ssqt s48 (SqT.of h)⟩
      have lst2 : steps.length = n := by rw [lst, hn]
      have ris : ∀ r ∈ steps, RiseI steps.length r := by
        intro ys hys
        obtain ⟨i, hi⟩ := List.mem_iff_getElem?.mp hys
        have hil := (List.getElem?_eq_some_iff.mp hi).1
        obtain ⟨ys2, e2, st⟩ := fst i _ (List.getElem?_eq_getElem (show i < (roomsN p n).length by omega))
        cases hi.symm.trans e2
        rw [lst2]
        exact growAll_rise hn st.1 st.2.1 st.2.2
      refine ⟨_, rfl, v, _, 0, _, rfl, rfl, ssqt s48 h1, at_of (j := 0) rfl rfl, m, steps, marks, 0, rfl, M, ris, by omega, by omega, by omega, fun H9 R0 ns9 s9 hR0 rise mem => ?_⟩
      rw [lst2] at rise
      have e9 := rise_range rise fun i hi => (mem _).mpr (reach_all hn fst n (Nat.le_refl _) i (by omega))
      subst e9
      refine ⟨_, rfl, rr, _, rfl, .inr (ssqt (s48.trans s9) h5), _, rfl, RgOk.of_le (by omega) (by omega) (by omega) (by omega), fun q1 hq => ?_⟩
      rw [lrs2]
      have sq := same_upd (o := .tup (rgV 0 ((n : Nat) : Int))) hq
      have eq1 : rgV 0 ((n : Nat) : Int) = ((List.range n).map fun (i : Nat) => (i : Int)).map V.int := by
        unfold rgV
        rw [show (((n : Nat) : Int) - 0).toNat = n by omega, List.map_map]
        refine List.map_congr_left fun i _ => ?_
        show V.int (0 + (i : Int)) = V.int (i : Int)
        rw [Int.zero_add]
      have hq10 : (L2.upd H9 q1 (.tup (rgV 0 ((n : Nat) : Int)))) q1 = some (.tup (((List.range n).map fun (i : Nat) => (i : Int)).map V.int)) := by rw [upd_same, eq1]
      exact ⟨_, _, rfl, Sm.ints (SqT.of (sq _ _ hR0)) (SqT.of hq10) (by rw [List.length_map, List.length_range]; omega), q _⟩
end

/-! ### what the top has written; the law's own head -/
theorem all_mk {l : PySem.W.OpenLaw} {w : World} {K : PySem.W.Frag} {h : Heap} {mg : Str → Option Value} {fa f1 f2 f3 f4 f5 f6 f7 f8 f9 f10 f11 f12 f13 f14 f15 f16 f17 f18 f19 f20 f21 f22 f23 f24 f25 f26 f27 f28 f29 f30 f31 f32 f33 f34 f35 f36 : Addr} (X : K.In h) (G : h.Ns mainGlobals mg) (hfa : mg "law" = some (.ref fa))
    {od1 an1 od2 an2 od3 an3 od4 an4 od5 an5 od6 an6 od7 an7 od8 an8 od9 an9 od10 an10 od11 an11 od12 an12 od13 an13 od14 an14 od15 an15 od16 an16 od17 an17 od18 an18 od19 an19 od20 an20 od21 an21 od22 an22 od23 an23 od24 an24 od25 an25 od26 an26 od27 an27 od28 an28 od29 an29 od30 an30 od31 an31 od32 an32 od33 an33 od34 an34 od35 an35 od36 an36 : Option Addr} {sl1 sl2 sl3 sl4 sl5 sl6 sl7 sl8 sl9 sl10 sl11 sl12 sl13 sl14 sl15 sl16 sl17 sl18 sl19 sl20 sl21 sl22 sl23 sl24 sl25 sl26 sl27 sl28 sl29 sl30 sl31 sl32 sl33 sl34 sl35 sl36 : Array (Option Value)} {oc1 kV1 dc1 pm1 cd1 ct1 oc2 kV2 dc2 pm2 cd2 ct2 oc3 kV3 dc3 pm3 cd3 ct3 oc4 kV4 dc4 pm4 cd4 ct4 oc5 kV5 dc5 pm5 cd5 ct5 oc6 kV6 dc6 pm6 cd6 ct6 oc7 kV7 dc7 pm7 cd7 ct7 oc8 kV8 dc8 pm8 cd8 ct8 oc9 kV9 dc9 pm9 cd9 ct9 oc10 dc10 pm10 cd10 ct10 oc11 kV11 dc11 pm11 cd11 ct11 oc12 kV12 dc12 pm12 cd12 ct12 oc13 kV13 dc13 pm13 cd13 ct13 oc14 kV14 dc14 pm14 cd14 ct14 oc15 kV15 dc15 pm15 cd15 ct15 oc16 kV16 dc16 pm16 cd16 ct16 oc17 kV17 dc17 pm17 cd17 ct17 oc18 kV18 dc18 pm18 cd18 ct18 oc19 kV19 dc19 pm19 cd19 ct19 oc20 kV20 dc20 pm20 cd20 ct20 oc21 kV21 dc21 pm21 cd21 ct21 oc22 kV22 dc22 pm22 cd22 ct22 oc23 kV23 dc23 pm23 cd23 ct23 oc24 kV24 dc24 pm24 cd24 ct24 oc25 kV25 dc25 pm25 cd25 ct25 oc26 kV26 dc26 pm26 cd26 ct26 oc27 kV27 dc27 pm27 cd27 ct27 oc28 kV28 dc28 pm28 cd28 ct28 oc29 kV29 dc29 pm29 cd29 ct29 oc30 kV30 dc30 pm30 cd30 ct30 oc31 kV31 dc31 pm31 cd31 ct31 oc32 kV32 dc32 pm32 cd32 ct32 oc33 kV33 dc33 pm33 cd33 ct33 oc34 kV34 dc34 pm34 cd34 ct34 oc35 kV35 dc35 pm35 cd35 ct35 oc36 kV36 dc36 pm36 cd36 ct36 : Value}
    (a1 : PySem.W.nsIn K mainGlobals "worth_of" = some (some (.ref f1))) (l1 : K.lookup f1 = some ⟨oc1, od1, .func (PySem.W.fnOf "worth_of" "worth_of" (defArgs sworth_of) (defBody sworth_of) (defScope sworth_of) .none kV1 dc1 pm1 an1 cd1 ct1), sl1⟩) (c1 : PySem.W.codeIn K cd1 "worth_of" = true) (k1 : PySem.W.keepIn K (.ref f1) = true)
    (a2 : PySem.W.nsIn K mainGlobals "test_holds" = some (some (.ref f2))) (l2 : K.lookup f2 = some ⟨oc2, od2, .func (PySem.W.fnOf "test_holds" "test_holds" (defArgs stest_holds) (defBody stest_holds) (defScope stest_holds) .none kV2 dc2 pm2 an2 cd2 ct2), sl2⟩) (c2 : PySem.W.codeIn K cd2 "test_holds" = true) (k2 : PySem.W.keepIn K (.ref f2) = true)
    (a3 : PySem.W.nsIn K mainGlobals "can_come" = some (some (.ref f3))) (l3 : K.lookup f3 = some ⟨oc3, od3, .func (PySem.W.fnOf "can_come" "can_come" (defArgs scan_come) (defBody scan_come) (defScope scan_come) .none kV3 dc3 pm3 an3 cd3 ct3), sl3⟩) (c3 : PySem.W.codeIn K cd3 "can_come" = true) (k3 : PySem.W.keepIn K (.ref f3) = true)
    (a4 : PySem.W.nsIn K mainGlobals "room_behind" = some (some (.ref f4))) (l4 : K.lookup f4 = some ⟨oc4, od4, .func (PySem.W.fnOf "room_behind" "room_behind" (defArgs sroom_behind) (defBody sroom_behind) (defScope sroom_behind) .none kV4 dc4 pm4 an4 cd4 ct4), sl4⟩) (c4 : PySem.W.codeIn K cd4 "room_behind" = true) (k4 : PySem.W.keepIn K (.ref f4) = true)
    (a5 : PySem.W.nsIn K mainGlobals "first_room" = some (some (.ref f5))) (l5 : K.lookup f5 = some ⟨oc5, od5, .func (PySem.W.fnOf "first_room" "first_room" (defArgs sfirst_room) (defBody sfirst_room) (defScope sfirst_room) .none kV5 dc5 pm5 an5 cd5 ct5), sl5⟩) (c5 : PySem.W.codeIn K cd5 "first_room" = true) (k5 : PySem.W.keepIn K (.ref f5) = true)
    (a6 : PySem.W.nsIn K mainGlobals "rooms_behind" = some (some (.ref f6))) (l6 : K.lookup f6 = some ⟨oc6, od6, .func (PySem.W.fnOf "rooms_behind" "rooms_behind" (defArgs srooms_behind) (defBody srooms_behind) (defScope srooms_behind) .none kV6 dc6 pm6 an6 cd6 ct6), sl6⟩) (c6 : PySem.W.codeIn K cd6 "rooms_behind" = true) (k6 : PySem.W.keepIn K (.ref f6) = true)
    (a7 : PySem.W.nsIn K mainGlobals "ask_holds" = some (some (.ref f7))) (l7 : K.lookup f7 = some ⟨oc7, od7, .func (PySem.W.fnOf "ask_holds" "ask_holds" (defArgs sask_holds) (defBody sask_holds) (defScope sask_holds) .none kV7 dc7 pm7 an7 cd7 ct7), sl7⟩) (c7 : PySem.W.codeIn K cd7 "ask_holds" = true) (k7 : PySem.W.keepIn K (.ref f7) = true)
    (a8 : PySem.W.nsIn K mainGlobals "names_in" = some (some (.ref f8))) (l8 : K.lookup f8 = some ⟨oc8, od8, .func (PySem.W.fnOf "names_in" "names_in" (defArgs snames_in) (defBody snames_in) (defScope snames_in) .none kV8 dc8 pm8 an8 cd8 ct8), sl8⟩) (c8 : PySem.W.codeIn K cd8 "names_in" = true) (k8 : PySem.W.keepIn K (.ref f8) = true)
    (a9 : PySem.W.nsIn K mainGlobals "laid" = some (some (.ref f9))) (l9 : K.lookup f9 = some ⟨oc9, od9, .func (PySem.W.fnOf "laid" "laid" (defArgs slaid) (defBody slaid) (defScope slaid) .none kV9 dc9 pm9 an9 cd9 ct9), sl9⟩) (c9 : PySem.W.codeIn K cd9 "laid" = true) (k9 : PySem.W.keepIn K (.ref f9) = true)
    {D10 : Addr}
    (a10 : PySem.W.nsIn K mainGlobals "lay" = some (some (.ref f10))) (l10 : K.lookup f10 = some ⟨oc10, od10, .func (PySem.W.fnOf "lay" "lay" (defArgs slay) (defBody slay) (defScope slay) .none (.ref D10) dc10 pm10 an10 cd10 ct10), sl10⟩) (c10 : PySem.W.codeIn K cd10 "lay" = true) (k10 : PySem.W.keepIn K (.ref f10) = true)
    {uK10most : Value} (qK10most : PySem.W.nsIn K D10 "most" = some (some uK10most)) (rK10most : RelV (.int 40) uK10most)
    (a11 : PySem.W.nsIn K mainGlobals "_law_pool" = some (some (.ref f11))) (l11 : K.lookup f11 = some ⟨oc11, od11, .func (PySem.W.fnOf "_law_pool" "_law_pool" (defArgs s_law_pool) (defBody s_law_pool) (defScope s_law_pool) .none kV11 dc11 pm11 an11 cd11 ct11), sl11⟩) (c11 : PySem.W.codeIn K cd11 "_law_pool" = true) (k11 : PySem.W.keepIn K (.ref f11) = true)
    (a12 : PySem.W.nsIn K mainGlobals "_law_draw" = some (some (.ref f12))) (l12 : K.lookup f12 = some ⟨oc12, od12, .func (PySem.W.fnOf "_law_draw" "_law_draw" (defArgs s_law_draw) (defBody s_law_draw) (defScope s_law_draw) .none kV12 dc12 pm12 an12 cd12 ct12), sl12⟩) (c12 : PySem.W.codeIn K cd12 "_law_draw" = true) (k12 : PySem.W.keepIn K (.ref f12) = true)
    (a13 : PySem.W.nsIn K mainGlobals "_law_name" = some (some (.ref f13))) (l13 : K.lookup f13 = some ⟨oc13, od13, .func (PySem.W.fnOf "_law_name" "_law_name" (defArgs s_law_name) (defBody s_law_name) (defScope s_law_name) .none kV13 dc13 pm13 an13 cd13 ct13), sl13⟩) (c13 : PySem.W.codeIn K cd13 "_law_name" = true) (k13 : PySem.W.keepIn K (.ref f13) = true)
    (a14 : PySem.W.nsIn K mainGlobals "_law_names" = some (some (.ref f14))) (l14 : K.lookup f14 = some ⟨oc14, od14, .func (PySem.W.fnOf "_law_names" "_law_names" (defArgs s_law_names) (defBody s_law_names) (defScope s_law_names) .none kV14 dc14 pm14 an14 cd14 ct14), sl14⟩) (c14 : PySem.W.codeIn K cd14 "_law_names" = true) (k14 : PySem.W.keepIn K (.ref f14) = true)
    (a15 : PySem.W.nsIn K mainGlobals "_law_number" = some (some (.ref f15))) (l15 : K.lookup f15 = some ⟨oc15, od15, .func (PySem.W.fnOf "_law_number" "_law_number" (defArgs s_law_number) (defBody s_law_number) (defScope s_law_number) .none kV15 dc15 pm15 an15 cd15 ct15), sl15⟩) (c15 : PySem.W.codeIn K cd15 "_law_number" = true) (k15 : PySem.W.keepIn K (.ref f15) = true)
    (a16 : PySem.W.nsIn K mainGlobals "_law_tuple" = some (some (.ref f16))) (l16 : K.lookup f16 = some ⟨oc16, od16, .func (PySem.W.fnOf "_law_tuple" "_law_tuple" (defArgs s_law_tuple) (defBody s_law_tuple) (defScope s_law_tuple) .none kV16 dc16 pm16 an16 cd16 ct16), sl16⟩) (c16 : PySem.W.codeIn K cd16 "_law_tuple" = true) (k16 : PySem.W.keepIn K (.ref f16) = true)
    (a17 : PySem.W.nsIn K mainGlobals "_law_good_set" = some (some (.ref f17))) (l17 : K.lookup f17 = some ⟨oc17, od17, .func (PySem.W.fnOf "_law_good_set" "_law_good_set" (defArgs s_law_good_set) (defBody s_law_good_set) (defScope s_law_good_set) .none kV17 dc17 pm17 an17 cd17 ct17), sl17⟩) (c17 : PySem.W.codeIn K cd17 "_law_good_set" = true) (k17 : PySem.W.keepIn K (.ref f17) = true)
    (a18 : PySem.W.nsIn K mainGlobals "_law_same" = some (some (.ref f18))) (l18 : K.lookup f18 = some ⟨oc18, od18, .func (PySem.W.fnOf "_law_same" "_law_same" (defArgs s_law_same) (defBody s_law_same) (defScope s_law_same) .none kV18 dc18 pm18 an18 cd18 ct18), sl18⟩) (c18 : PySem.W.codeIn K cd18 "_law_same" = true) (k18 : PySem.W.keepIn K (.ref f18) = true)
    (a19 : PySem.W.nsIn K mainGlobals "_law_worth" = some (some (.ref f19))) (l19 : K.lookup f19 = some ⟨oc19, od19, .func (PySem.W.fnOf "_law_worth" "_law_worth" (defArgs s_law_worth) (defBody s_law_worth) (defScope s_law_worth) .none kV19 dc19 pm19 an19 cd19 ct19), sl19⟩) (c19 : PySem.W.codeIn K cd19 "_law_worth" = true) (k19 : PySem.W.keepIn K (.ref f19) = true)
    (a20 : PySem.W.nsIn K mainGlobals "_law_test" = some (some (.ref f20))) (l20 : K.lookup f20 = some ⟨oc20, od20, .func (PySem.W.fnOf "_law_test" "_law_test" (defArgs s_law_test) (defBody s_law_test) (defScope s_law_test) .none kV20 dc20 pm20 an20 cd20 ct20), sl20⟩) (c20 : PySem.W.codeIn K cd20 "_law_test" = true) (k20 : PySem.W.keepIn K (.ref f20) = true)
    (a21 : PySem.W.nsIn K mainGlobals "_law_cells" = some (some (.ref f21))) (l21 : K.lookup f21 = some ⟨oc21, od21, .func (PySem.W.fnOf "_law_cells" "_law_cells" (defArgs s_law_cells) (defBody s_law_cells) (defScope s_law_cells) .none kV21 dc21 pm21 an21 cd21 ct21), sl21⟩) (c21 : PySem.W.codeIn K cd21 "_law_cells" = true) (k21 : PySem.W.keepIn K (.ref f21) = true)
    (a22 : PySem.W.nsIn K mainGlobals "_law_command" = some (some (.ref f22))) (l22 : K.lookup f22 = some ⟨oc22, od22, .func (PySem.W.fnOf "_law_command" "_law_command" (defArgs s_law_command) (defBody s_law_command) (defScope s_law_command) .none kV22 dc22 pm22 an22 cd22 ct22), sl22⟩) (c22 : PySem.W.codeIn K cd22 "_law_command" = true) (k22 : PySem.W.keepIn K (.ref f22) = true)
    (a23 : PySem.W.nsIn K mainGlobals "_law_ask" = some (some (.ref f23))) (l23 : K.lookup f23 = some ⟨oc23, od23, .func (PySem.W.fnOf "_law_ask" "_law_ask" (defArgs s_law_ask) (defBody s_law_ask) (defScope s_law_ask) .none kV23 dc23 pm23 an23 cd23 ct23), sl23⟩) (c23 : PySem.W.codeIn K cd23 "_law_ask" = true) (k23 : PySem.W.keepIn K (.ref f23) = true)
    (a24 : PySem.W.nsIn K mainGlobals "_law_marks" = some (some (.ref f24))) (l24 : K.lookup f24 = some ⟨oc24, od24, .func (PySem.W.fnOf "_law_marks" "_law_marks" (defArgs s_law_marks) (defBody s_law_marks) (defScope s_law_marks) .none kV24 dc24 pm24 an24 cd24 ct24), sl24⟩) (c24 : PySem.W.codeIn K cd24 "_law_marks" = true) (k24 : PySem.W.keepIn K (.ref f24) = true)
    (a25 : PySem.W.nsIn K mainGlobals "_law_program" = some (some (.ref f25))) (l25 : K.lookup f25 = some ⟨oc25, od25, .func (PySem.W.fnOf "_law_program" "_law_program" (defArgs s_law_program) (defBody s_law_program) (defScope s_law_program) .none kV25 dc25 pm25 an25 cd25 ct25), sl25⟩) (c25 : PySem.W.codeIn K cd25 "_law_program" = true) (k25 : PySem.W.keepIn K (.ref f25) = true)
    (a26 : PySem.W.nsIn K mainGlobals "_law_comes_to" = some (some (.ref f26))) (l26 : K.lookup f26 = some ⟨oc26, od26, .func (PySem.W.fnOf "_law_comes_to" "_law_comes_to" (defArgs s_law_comes_to) (defBody s_law_comes_to) (defScope s_law_comes_to) .none kV26 dc26 pm26 an26 cd26 ct26), sl26⟩) (c26 : PySem.W.codeIn K cd26 "_law_comes_to" = true) (k26 : PySem.W.keepIn K (.ref f26) = true)
    (a27 : PySem.W.nsIn K mainGlobals "_law_all_hold" = some (some (.ref f27))) (l27 : K.lookup f27 = some ⟨oc27, od27, .func (PySem.W.fnOf "_law_all_hold" "_law_all_hold" (defArgs s_law_all_hold) (defBody s_law_all_hold) (defScope s_law_all_hold) .none kV27 dc27 pm27 an27 cd27 ct27), sl27⟩) (c27 : PySem.W.codeIn K cd27 "_law_all_hold" = true) (k27 : PySem.W.keepIn K (.ref f27) = true)
    (a28 : PySem.W.nsIn K mainGlobals "_law_names_of" = some (some (.ref f28))) (l28 : K.lookup f28 = some ⟨oc28, od28, .func (PySem.W.fnOf "_law_names_of" "_law_names_of" (defArgs s_law_names_of) (defBody s_law_names_of) (defScope s_law_names_of) .none kV28 dc28 pm28 an28 cd28 ct28), sl28⟩) (c28 : PySem.W.codeIn K cd28 "_law_names_of" = true) (k28 : PySem.W.keepIn K (.ref f28) = true)
    (a29 : PySem.W.nsIn K mainGlobals "_law_next_room" = some (some (.ref f29))) (l29 : K.lookup f29 = some ⟨oc29, od29, .func (PySem.W.fnOf "_law_next_room" "_law_next_room" (defArgs s_law_next_room) (defBody s_law_next_room) (defScope s_law_next_room) .none kV29 dc29 pm29 an29 cd29 ct29), sl29⟩) (c29 : PySem.W.codeIn K cd29 "_law_next_room" = true) (k29 : PySem.W.keepIn K (.ref f29) = true)
    (a30 : PySem.W.nsIn K mainGlobals "_law_first_room" = some (some (.ref f30))) (l30 : K.lookup f30 = some ⟨oc30, od30, .func (PySem.W.fnOf "_law_first_room" "_law_first_room" (defArgs s_law_first_room) (defBody s_law_first_room) (defScope s_law_first_room) .none kV30 dc30 pm30 an30 cd30 ct30), sl30⟩) (c30 : PySem.W.codeIn K cd30 "_law_first_room" = true) (k30 : PySem.W.keepIn K (.ref f30) = true)
    (a31 : PySem.W.nsIn K mainGlobals "_law_row_holds" = some (some (.ref f31))) (l31 : K.lookup f31 = some ⟨oc31, od31, .func (PySem.W.fnOf "_law_row_holds" "_law_row_holds" (defArgs s_law_row_holds) (defBody s_law_row_holds) (defScope s_law_row_holds) .none kV31 dc31 pm31 an31 cd31 ct31), sl31⟩) (c31 : PySem.W.codeIn K cd31 "_law_row_holds" = true) (k31 : PySem.W.keepIn K (.ref f31) = true)
    (a32 : PySem.W.nsIn K mainGlobals "_law_worn" = some (some (.ref f32))) (l32 : K.lookup f32 = some ⟨oc32, od32, .func (PySem.W.fnOf "_law_worn" "_law_worn" (defArgs s_law_worn) (defBody s_law_worn) (defScope s_law_worn) .none kV32 dc32 pm32 an32 cd32 ct32), sl32⟩) (c32 : PySem.W.codeIn K cd32 "_law_worn" = true) (k32 : PySem.W.keepIn K (.ref f32) = true)
    (a33 : PySem.W.nsIn K mainGlobals "_law_good_layout" = some (some (.ref f33))) (l33 : K.lookup f33 = some ⟨oc33, od33, .func (PySem.W.fnOf "_law_good_layout" "_law_good_layout" (defArgs s_law_good_layout) (defBody s_law_good_layout) (defScope s_law_good_layout) .none kV33 dc33 pm33 an33 cd33 ct33), sl33⟩) (c33 : PySem.W.codeIn K cd33 "_law_good_layout" = true) (k33 : PySem.W.keepIn K (.ref f33) = true)
    (a34 : PySem.W.nsIn K mainGlobals "reached" = some (some (.ref f34))) (l34 : K.lookup f34 = some ⟨oc34, od34, .func (PySem.W.fnOf "reached" "reached" (defArgs sreached) (defBody sreached) (defScope sreached) .none kV34 dc34 pm34 an34 cd34 ct34), sl34⟩) (c34 : PySem.W.codeIn K cd34 "reached" = true) (k34 : PySem.W.keepIn K (.ref f34) = true)
    (a35 : PySem.W.nsIn K mainGlobals "_law_stands" = some (some (.ref f35))) (l35 : K.lookup f35 = some ⟨oc35, od35, .func (PySem.W.fnOf "_law_stands" "_law_stands" (defArgs s_law_stands) (defBody s_law_stands) (defScope s_law_stands) .none kV35 dc35 pm35 an35 cd35 ct35), sl35⟩) (c35 : PySem.W.codeIn K cd35 "_law_stands" = true) (k35 : PySem.W.keepIn K (.ref f35) = true)
    (a36 : PySem.W.nsIn K mainGlobals "law" = some (some (.ref f36))) (l36 : K.lookup f36 = some ⟨oc36, od36, .func (PySem.W.fnOf "law" "law" (defArgs slaw) (defBody slaw) (defScope slaw) .none kV36 dc36 pm36 an36 cd36 ct36), sl36⟩) (c36 : PySem.W.codeIn K cd36 "law" = true) (k36 : PySem.W.keepIn K (.ref f36) = true)
    (z_ValueError : PySem.W.nsIn K mainGlobals "ValueError" = some none)
    (z_isinstance : PySem.W.nsIn K mainGlobals "isinstance" = some none)
    (z_tuple : PySem.W.nsIn K mainGlobals "tuple" = some none)
    (z_all : PySem.W.nsIn K mainGlobals "all" = some none)
    (z_list : PySem.W.nsIn K mainGlobals "list" = some none)
    (z_enumerate : PySem.W.nsIn K mainGlobals "enumerate" = some none)
    (z_range : PySem.W.nsIn K mainGlobals "range" = some none)
    (z_bool : PySem.W.nsIn K mainGlobals "bool" = some none)
    (z_int : PySem.W.nsIn K mainGlobals "int" = some none)
    (z_str : PySem.W.nsIn K mainGlobals "str" = some none)
    (z_len : PySem.W.nsIn K mainGlobals "len" = some none)
    (z_any : PySem.W.nsIn K mainGlobals "any" = some none)
    (z_sorted : PySem.W.nsIn K mainGlobals "sorted" = some none)
    (z_min : PySem.W.nsIn K mainGlobals "min" = some none)
    {xcTooGreat : Addr} (gXTooGreat : PySem.W.nsIn K mainGlobals "TooGreat" = some (some (.ref xcTooGreat))) (kXTooGreat : PySem.W.keepIn K (.ref xcTooGreat) = true) (bXTooGreat : PySem.W.subIn K (.ref xcTooGreat) (.type "BaseException") = some true) (tXTooGreat : PySem.W.typeIn K (.ref xcTooGreat) = some (.type "type")) (hXTooGreat : PySem.W.hasDictIn K xcTooGreat = true)
    (eX : PySem.W.excIn K xcTooGreat [.type "ValueError", .type "Exception", .type "BaseException", .type "object"] "ValueError.__new__" = true)
    (e1 : PySem.W.findIn K (.ref xcTooGreat) "__getattribute__" = some (some (.builtin "BaseException.__getattribute__")))
    (e2 : PySem.W.findIn K (.ref xcTooGreat) "__getattr__" = some none)
    (e3 : PySem.W.findIn K (.ref xcTooGreat) "__class__" = some (some (.builtin "object.__class__")))
    (e4 : PySem.W.specialIn K (.builtin "object.__class__") "__get__" = some (some (.builtin "getset_descriptor.__get__")))
    (e5 : PySem.W.takesIn K (.builtin "object.__class__") = some true)
    (e6 : PySem.W.mroIn K xcTooGreat (.type "object") = some true)
    (e7 : PySem.W.subIn K (.ref xcTooGreat) (.ref xcTooGreat) = some true)
    (e8 : PySem.W.subIn K (.ref xcTooGreat) (.type "ValueError") = some true)
    : ∃ fd : FuncData, (∀ (s : Shared) (v : Value), BindsTo s fd ⟨[v], []⟩ [("_law_script", v)]) ∧ ∀ base : Heap, K.In base → base.Ns mainGlobals mg → FnOk l.prog w K mg base CX0 8 fa fd ["_law_script"] (spLaw K) := by
  have e := hfa.symm.trans (PySem.W.mg_of X G a36)
  cases e
  have F1 := fun_mk (st := sworth_of) l1 c1 k1
  have F2 := fun_mk (st := stest_holds) l2 c2 k2
  have F3 := fun_mk (st := scan_come) l3 c3 k3
  have F4 := fun_mk (st := sroom_behind) l4 c4 k4
  have F5 := fun_mk (st := sfirst_room) l5 c5 k5
  have F6 := fun_mk (st := srooms_behind) l6 c6 k6
  have F7 := fun_mk (st := sask_holds) l7 c7 k7
  have F8 := fun_mk (st := snames_in) l8 c8 k8
  have F9 := fun_mk (st := slaid) l9 c9 k9
  have F10 : FunD K "lay" "lay" (defArgs slay) (defBody slay) (defScope slay) [] [("most", V.int 40)] f10 _ := ⟨⟨_, _, _, _, _, _, _, _, _, _, rfl, l10, c10, .inl ⟨rfl, rfl⟩, .inr ⟨D10, rfl, List.forall_mem_cons.mpr ⟨⟨_, qK10most, rK10most⟩, List.forall_mem_nil _⟩⟩⟩, k10⟩
  have F11 := fun_mk (st := s_law_pool) l11 c11 k11
  have F12 := fun_mk (st := s_law_draw) l12 c12 k12
  have F13 := fun_mk (st := s_law_name) l13 c13 k13
  have F14 := fun_mk (st := s_law_names) l14 c14 k14
  have F15 := fun_mk (st := s_law_number) l15 c15 k15
  have F16 := fun_mk (st := s_law_tuple) l16 c16 k16
  have F17 := fun_mk (st := s_law_good_set) l17 c17 k17
  have F18 := fun_mk (st := s_law_same) l18 c18 k18
  have F19 := fun_mk (st := s_law_worth) l19 c19 k19
  have F20 := fun_mk (st := s_law_test) l20 c20 k20
  have F21 := fun_mk (st := s_law_cells) l21 c21 k21
  have F22 := fun_mk (st := s_law_command) l22 c22 k22
  have F23 := fun_mk (st := s_law_ask) l23 c23 k23
  have F24 := fun_mk (st := s_law_marks) l24 c24 k24
  have F25 := fun_mk (st := s_law_program) l25 c25 k25
  have F26 := fun_mk (st := s_law_comes_to) l26 c26 k26
  have F27 := fun_mk (st := s_law_all_hold) l27 c27 k27
  have F28 := fun_mk (st := s_law_names_of) l28 c28 k28
  have F29 := fun_mk (st := s_law_next_room) l29 c29 k29
  have F30 := fun_mk (st := s_law_first_room) l30 c30 k30
  have F31 := fun_mk (st := s_law_row_holds) l31 c31 k31
  have F32 := fun_mk (st := s_law_worn) l32 c32 k32
  have F33 := fun_mk (st := s_law_good_layout) l33 c33 k33
  have F34 := fun_mk (st := sreached) l34 c34 k34
  have F35 := fun_mk (st := s_law_stands) l35 c35 k35
  have F36 := fun_mk (st := slaw) l36 c36 k36
  have b1 := F1.binds (ps := ["worth", "names", "room"]) fun _ _ _ _ _ _ us hl => match us, hl with | [_, _, _], _ => rfl
  have b2 := F2.binds (ps := ["test", "names", "room"]) fun _ _ _ _ _ _ us hl => match us, hl with | [_, _, _], _ => rfl
  have b3 := F3.binds (ps := ["command", "names", "room"]) fun _ _ _ _ _ _ us hl => match us, hl with | [_, _, _], _ => rfl
  have b4 := F4.binds (ps := ["program", "number", "room"]) fun _ _ _ _ _ _ us hl => match us, hl with | [_, _, _], _ => rfl
  have b5 := F5.binds (ps := ["program"]) fun _ _ _ _ _ _ us hl => match us, hl with | [_], _ => rfl
  have b6 := F6.binds (ps := ["program", "room"]) fun _ _ _ _ _ _ us hl => match us, hl with | [_, _], _ => rfl
  have b7 := F7.binds (ps := ["program", "ask", "names", "room"]) fun _ _ _ _ _ _ us hl => match us, hl with | [_, _, _, _], _ => rfl
  have b8 := F8.binds (ps := ["program", "room"]) fun _ _ _ _ _ _ us hl => match us, hl with | [_, _], _ => rfl
  have b9 := F9.binds (ps := ["program", "most"]) fun _ _ _ _ _ _ us hl => match us, hl with | [_, _], _ => rfl
  obtain ⟨ds10, rd10, b10⟩ := F10.binds0 (ps := ["program", "most"]) 1 (by simp) rfl fun _ _ _ _ _ _ us ks h1 h2 => match us, h1, ks, h2 with | [_], _, [_], _ => ⟨_, _, _, _, _, _, rfl, rfl, rfl⟩
  obtain ⟨_, kb10⟩ := F10.kbinds0 (ps := ["program", "most"]) 1 ["most"] [] (fun us _ ws => us ++ ws) (by simp) (by simp) (fun r1 _ r3 => r1.append r3) fun _ _ _ _ _ _ us mv ws h1 h2 h3 => match us, h1, mv, h2, ws, h3 with | [_], _, [], _, [_], _ => rfl
  have b11 := F11.binds (ps := ["_law_script"]) fun _ _ _ _ _ _ us hl => match us, hl with | [_], _ => rfl
  have b12 := F12.binds (ps := ["_law_pool_here", "_law_many"]) fun _ _ _ _ _ _ us hl => match us, hl with | [_, _], _ => rfl
  have b13 := F13.binds (ps := ["_law_pool_here", "_law_start", "_law_taken"]) fun _ _ _ _ _ _ us hl => match us, hl with | [_, _, _], _ => rfl
  have b14 := F14.binds (ps := ["_law_pool_here", "_law_many"]) fun _ _ _ _ _ _ us hl => match us, hl with | [_, _], _ => rfl
  have b15 := F15.binds (ps := ["_law_thing", "_law_low", "_law_high"]) fun _ _ _ _ _ _ us hl => match us, hl with | [_, _, _], _ => rfl
  have b16 := F16.binds (ps := ["_law_thing", "_law_least", "_law_most"]) fun _ _ _ _ _ _ us hl => match us, hl with | [_, _, _], _ => rfl
  have b17 := F17.binds (ps := ["_law_thing", "_law_many"]) fun _ _ _ _ _ _ us hl => match us, hl with | [_, _], _ => rfl
  have b18 := F18.binds (ps := ["_law_found", "_law_due"]) fun _ _ _ _ _ _ us hl => match us, hl with | [_, _], _ => rfl
  have b19 := F19.binds (ps := ["_law_pool_here", "_law_names_here"]) fun _ _ _ _ _ _ us hl => match us, hl with | [_, _], _ => rfl
  have b20 := F20.binds (ps := ["_law_pool_here", "_law_names_here"]) fun _ _ _ _ _ _ us hl => match us, hl with | [_, _], _ => rfl
  have b21 := F21.binds (ps := ["_law_pool_here", "_law_names_here", "_law_room"]) fun _ _ _ _ _ _ us hl => match us, hl with | [_, _, _], _ => rfl
  have b22 := F22.binds (ps := ["_law_pool_here", "_law_name_here", "_law_names_here"]) fun _ _ _ _ _ _ us hl => match us, hl with | [_, _, _], _ => rfl
  have b23 := F23.binds (ps := ["_law_pool_here", "_law_cells_here", "_law_commands", "_law_keeps"]) fun _ _ _ _ _ _ us hl => match us, hl with | [_, _, _, _], _ => rfl
  have b24 := F24.binds (ps := ["_law_pool_here", "_law_names_here", "_law_cells_here", "_law_commands", "_law_keeps"]) fun _ _ _ _ _ _ us hl => match us, hl with | [_, _, _, _, _], _ => rfl
  have b25 := F25.binds (ps := ["_law_pool_here", "_law_room", "_law_commands", "_law_marks_here"]) fun _ _ _ _ _ _ us hl => match us, hl with | [_, _, _, _], _ => rfl
  have b26 := F26.binds (ps := ["_law_worth_here", "_law_names_here", "_law_room"]) fun _ _ _ _ _ _ us hl => match us, hl with | [_, _, _], _ => rfl
  have b27 := F27.binds (ps := ["_law_tests", "_law_names_here", "_law_room"]) fun _ _ _ _ _ _ us hl => match us, hl with | [_, _, _], _ => rfl
  have b28 := F28.binds (ps := ["_law_rows"]) fun _ _ _ _ _ _ us hl => match us, hl with | [_], _ => rfl
  have b29 := F29.binds (ps := ["_law_program_here", "_law_k", "_law_room"]) fun _ _ _ _ _ _ us hl => match us, hl with | [_, _, _], _ => rfl
  have b30 := F30.binds (ps := ["_law_program_here"]) fun _ _ _ _ _ _ us hl => match us, hl with | [_], _ => rfl
  have b31 := F31.binds (ps := ["_law_program_here", "_law_row", "_law_room"]) fun _ _ _ _ _ _ us hl => match us, hl with | [_, _, _], _ => rfl
  have b32 := F32.binds (ps := ["_law_program_here", "_law_room"]) fun _ _ _ _ _ _ us hl => match us, hl with | [_, _], _ => rfl
  have b33 := F33.binds (ps := ["_law_program_here", "_law_told"]) fun _ _ _ _ _ _ us hl => match us, hl with | [_, _], _ => rfl
  have b34 := F34.binds (ps := ["machine", "standing"]) fun _ _ _ _ _ _ us hl => match us, hl with | [_, _], _ => rfl
  have b35 := F35.binds (ps := ["_law_program_here", "_law_told", "_law_at", "_law_room"]) fun _ _ _ _ _ _ us hl => match us, hl with | [_, _, _, _], _ => rfl
  have T : Bi mg := ⟨PySem.W.mg_none_of X G z_ValueError, PySem.W.mg_none_of X G z_isinstance, PySem.W.mg_none_of X G z_tuple, PySem.W.mg_none_of X G z_all, PySem.W.mg_none_of X G z_list, PySem.W.mg_none_of X G z_enumerate, PySem.W.mg_none_of X G z_range, PySem.W.mg_none_of X G z_bool, PySem.W.mg_none_of X G z_int, PySem.W.mg_none_of X G z_str, PySem.W.mg_none_of X G z_len, PySem.W.mg_none_of X G z_any, PySem.W.mg_none_of X G z_sorted, PySem.W.mg_none_of X G z_min⟩
  let S : XOne K mg "TooGreat" := ⟨xcTooGreat, ⟨PySem.W.mg_of X G gXTooGreat, kXTooGreat, bXTooGreat, tXTooGreat, hXTooGreat⟩, ⟨eX, ⟨e1, e2, bXTooGreat, hXTooGreat, e3, e4, e5, e6⟩, e7, e8⟩⟩
  refine ⟨PySem.W.fnOf "law" "law" (defArgs slaw) (defBody slaw) (defScope slaw) .none kV36 dc36 pm36 an36 cd36 ct36, fun s v => .of_eq rfl, fun base _ _ => ?_⟩
  have cworth_of : Cal l.prog w K mg base 1 "worth_of" ["worth", "names", "room"] (spWV K) := ⟨f1, _, ok_wv F1 T, PySem.W.mg_of X G a1, F1.kp, b1⟩
  have ctest_holds : Cal l.prog w K mg base 2 "test_holds" ["test", "names", "room"] (spTV K) := ⟨f2, _, ok_tv F2 T cworth_of, PySem.W.mg_of X G a2, F2.kp, b2⟩
  have ccan_come : Cal l.prog w K mg base 3 "can_come" ["command", "names", "room"] (spCV K) := ⟨f3, _, ok_cv F3 T ctest_holds, PySem.W.mg_of X G a3, F3.kp, b3⟩
  have croom_behind : Cal l.prog w K mg base 2 "room_behind" ["program", "number", "room"] (spRB K) := ⟨f4, _, ok_rb F4 T cworth_of, PySem.W.mg_of X G a4, F4.kp, b4⟩
  have cfirst_room : Cal l.prog w K mg base 1 "first_room" ["program"] (spFR K) := ⟨f5, _, ok_fr F5 T, PySem.W.mg_of X G a5, F5.kp, b5⟩
  have crooms_behind : Cal l.prog w K mg base 4 "rooms_behind" ["program", "room"] (spRS K) := ⟨f6, _, ok_rs F6 T ccan_come croom_behind, PySem.W.mg_of X G a6, F6.kp, b6⟩
  have cask_holds : Cal l.prog w K mg base 4 "ask_holds" ["program", "ask", "names", "room"] (spAV K) := ⟨f7, _, ok_av F7 T ctest_holds ccan_come, PySem.W.mg_of X G a7, F7.kp, b7⟩
  have cnames_in : Cal l.prog w K mg base 5 "names_in" ["program", "room"] (spNI K) := ⟨f8, _, ok_ni F8 T cask_holds, PySem.W.mg_of X G a8, F8.kp, b8⟩
  have claid : Cal l.prog w K mg base 6 "laid" ["program", "most"] (spLaid K) := ⟨f9, _, ok_laid F9 T cfirst_room crooms_behind cnames_in, PySem.W.mg_of X G a9, F9.kp, b9⟩
  have clay : CalKX l.prog w K mg base 7 "lay" ["program", "most"] (spLay K S.R) 1 ["most"] [V.int 40] := ⟨f10, _, ok_lay F10 T S claid, PySem.W.mg_of X G a10, F10.kp, ds10, rd10, b10, kb10⟩
  have c_law_pool : Cal l.prog w K mg base 1 "_law_pool" ["_law_script"] (spPoolF K) := ⟨f11, _, ok_poolF F11 , PySem.W.mg_of X G a11, F11.kp, b11⟩
  have c_law_draw : Cal l.prog w K mg base 1 "_law_draw" ["_law_pool_here", "_law_many"] spDraw := ⟨f12, _, ok_draw F12 T, PySem.W.mg_of X G a12, F12.kp, b12⟩
  have c_law_name : Cal l.prog w K mg base 2 "_law_name" ["_law_pool_here", "_law_start", "_law_taken"] spLName := ⟨f13, _, ok_lname F13 T c_law_draw, PySem.W.mg_of X G a13, F13.kp, b13⟩
  have c_law_names : Cal l.prog w K mg base 3 "_law_names" ["_law_pool_here", "_law_many"] spLNames := ⟨f14, _, ok_lnames F14 T c_law_draw c_law_name, PySem.W.mg_of X G a14, F14.kp, b14⟩
  have c_law_number : Cal l.prog w K mg base 1 "_law_number" ["_law_thing", "_law_low", "_law_high"] spLNum := ⟨f15, _, ok_lnum F15 T, PySem.W.mg_of X G a15, F15.kp, b15⟩
  have c_law_tuple : Cal l.prog w K mg base 1 "_law_tuple" ["_law_thing", "_law_least", "_law_most"] (spLTup K) := ⟨f16, _, ok_ltup F16 T, PySem.W.mg_of X G a16, F16.kp, b16⟩
  have c_law_good_set : Cal l.prog w K mg base 2 "_law_good_set" ["_law_thing", "_law_many"] (spLSet K) := ⟨f17, _, ok_lset F17 T c_law_tuple c_law_number, PySem.W.mg_of X G a17, F17.kp, b17⟩
  have c_law_same : Cal l.prog w K mg base 3 "_law_same" ["_law_found", "_law_due"] (spSm K 1) := ⟨f18, _, ok_sm F18 T (PySem.W.mg_of X G a18) F18.kp b18 1, PySem.W.mg_of X G a18, F18.kp, b18⟩
  have c_law_worth : Cal l.prog w K mg base 2 "_law_worth" ["_law_pool_here", "_law_names_here"] (spLWorth K) := ⟨f19, _, ok_lworth F19 T c_law_draw, PySem.W.mg_of X G a19, F19.kp, b19⟩
  have c_law_test : Cal l.prog w K mg base 3 "_law_test" ["_law_pool_here", "_law_names_here"] (spLTest K) := ⟨f20, _, ok_ltest F20 T c_law_draw c_law_worth, PySem.W.mg_of X G a20, F20.kp, b20⟩
  have c_law_cells : Cal l.prog w K mg base 2 "_law_cells" ["_law_pool_here", "_law_names_here", "_law_room"] (spLCells K) := ⟨f21, _, ok_lcells F21 T c_law_draw, PySem.W.mg_of X G a21, F21.kp, b21⟩
  have c_law_command : Cal l.prog w K mg base 4 "_law_command" ["_law_pool_here", "_law_name_here", "_law_names_here"] (spLCommand K) := ⟨f22, _, ok_lcommand F22 T c_law_draw c_law_test c_law_worth, PySem.W.mg_of X G a22, F22.kp, b22⟩
  have c_law_ask : Cal l.prog w K mg base 4 "_law_ask" ["_law_pool_here", "_law_cells_here", "_law_commands", "_law_keeps"] (spLAsk K) := ⟨f23, _, ok_lask F23 T c_law_draw c_law_test, PySem.W.mg_of X G a23, F23.kp, b23⟩
  have c_law_marks : Cal l.prog w K mg base 5 "_law_marks" ["_law_pool_here", "_law_names_here", "_law_cells_here", "_law_commands", "_law_keeps"] (spLMarks K) := ⟨f24, _, ok_lmarks F24 T c_law_draw c_law_ask, PySem.W.mg_of X G a24, F24.kp, b24⟩
  have c_law_program : Cal l.prog w K mg base 6 "_law_program" ["_law_pool_here", "_law_room", "_law_commands", "_law_marks_here"] (spLProgram K) := ⟨f25, _, ok_lprogram F25 T c_law_draw c_law_names c_law_cells c_law_command c_law_marks, PySem.W.mg_of X G a25, F25.kp, b25⟩
  have c_law_comes_to : Cal l.prog w K mg base 1 "_law_comes_to" ["_law_worth_here", "_law_names_here", "_law_room"] (spWV K) := ⟨f26, _, ok_lwv F26 T, PySem.W.mg_of X G a26, F26.kp, b26⟩
  have c_law_all_hold : Cal l.prog w K mg base 2 "_law_all_hold" ["_law_tests", "_law_names_here", "_law_room"] (spAH K) := ⟨f27, _, ok_ah F27 T c_law_comes_to, PySem.W.mg_of X G a27, F27.kp, b27⟩
  have c_law_names_of : Cal l.prog w K mg base 1 "_law_names_of" ["_law_rows"] (spNO K) := ⟨f28, _, ok_no F28 T, PySem.W.mg_of X G a28, F28.kp, b28⟩
  have c_law_next_room : Cal l.prog w K mg base 3 "_law_next_room" ["_law_program_here", "_law_k", "_law_room"] (spLN K) := ⟨f29, _, ok_ln F29 T c_law_names_of c_law_all_hold c_law_comes_to, PySem.W.mg_of X G a29, F29.kp, b29⟩
  have c_law_first_room : Cal l.prog w K mg base 1 "_law_first_room" ["_law_program_here"] (spFR K) := ⟨f30, _, ok_lfr F30 T, PySem.W.mg_of X G a30, F30.kp, b30⟩
  have c_law_row_holds : Cal l.prog w K mg base 3 "_law_row_holds" ["_law_program_here", "_law_row", "_law_room"] (spRH K) := ⟨f31, _, ok_rh F31 T c_law_names_of c_law_all_hold, PySem.W.mg_of X G a31, F31.kp, b31⟩
  have c_law_worn : Cal l.prog w K mg base 4 "_law_worn" ["_law_program_here", "_law_room"] (spNI K) := ⟨f32, _, ok_worn F32 T c_law_row_holds, PySem.W.mg_of X G a32, F32.kp, b32⟩
  have c_law_good_layout : Cal l.prog w K mg base 3 "_law_good_layout" ["_law_program_here", "_law_told"] (spGL K) := ⟨f33, _, ok_gl F33 T c_law_tuple c_law_number c_law_good_set c_law_first_room, PySem.W.mg_of X G a33, F33.kp, b33⟩
  have creached : Cal l.prog w K mg base 1 "reached" ["machine", "standing"] (spReached K) := ⟨f34, _, ok_reached F34 T, PySem.W.mg_of X G a34, F34.kp, b34⟩
  have c_law_stands : Cal l.prog w K mg base 5 "_law_stands" ["_law_program_here", "_law_told", "_law_at", "_law_room"] (spSt K) := ⟨f35, _, ok_st F35 T c_law_next_room c_law_worn c_law_same, PySem.W.mg_of X G a35, F35.kp, b35⟩
  exact ok_law F36 T S c_law_pool c_law_program clay c_law_good_layout c_law_first_room c_law_stands c_law_next_room creached c_law_same
end Fx
open PySem PySem.W PyProof.Rows
set_option maxHeartbeats 0 in
theorem PySem.Challenge.cw_fairtrees_k11_whole_walks_of_commands_holds : PySem.Challenge.rw_fairtrees_k11_whole_walks_of_commands.Holds := by
  w_on; o_law; k_head; (case hw => w_witness2)
  k_fill
  refine L2.walk_of (l := PySem.Challenge.rw_fairtrees_k11_whole_walks_of_commands) (n := 63) (k := 8) (x := "_law_script") (CX := fun _ => L2.CX0) (sp := fun w => Fx.spLaw _) rfl (by decide) rfl ⟨rfl, by decide, by decide⟩ (fun w h Y => PySem.W.kIn_of Y) ?F (fun _ _ a ns hl _ hS => ⟨a, ns, rfl, hS, hl, fun _ => rfl⟩) (fun _ _ _ _ _ h => h)
  case F =>
    intro w mg fa h KX G hmg
    refine' Fx.all_mk KX G hmg ?a1 ?l1 ?c1 ?k1 ?a2 ?l2 ?c2 ?k2 ?a3 ?l3 ?c3 ?k3 ?a4 ?l4 ?c4 ?k4 ?a5 ?l5 ?c5 ?k5 ?a6 ?l6 ?c6 ?k6 ?a7 ?l7 ?c7 ?k7 ?a8 ?l8 ?c8 ?k8 ?a9 ?l9 ?c9 ?k9 ?a10 ?l10 ?c10 ?k10 ?qK10most ?rK10most ?a11 ?l11 ?c11 ?k11 ?a12 ?l12 ?c12 ?k12 ?a13 ?l13 ?c13 ?k13 ?a14 ?l14 ?c14 ?k14 ?a15 ?l15 ?c15 ?k15 ?a16 ?l16 ?c16 ?k16 ?a17 ?l17 ?c17 ?k17 ?a18 ?l18 ?c18 ?k18 ?a19 ?l19 ?c19 ?k19 ?a20 ?l20 ?c20 ?k20 ?a21 ?l21 ?c21 ?k21 ?a22 ?l22 ?c22 ?k22 ?a23 ?l23 ?c23 ?k23 ?a24 ?l24 ?c24 ?k24 ?a25 ?l25 ?c25 ?k25 ?a26 ?l26 ?c26 ?k26 ?a27 ?l27 ?c27 ?k27 ?a28 ?l28 ?c28 ?k28 ?a29 ?l29 ?c29 ?k29 ?a30 ?l30 ?c30 ?k30 ?a31 ?l31 ?c31 ?k31 ?a32 ?l32 ?c32 ?k32 ?a33 ?l33 ?c33 ?k33 ?a34 ?l34 ?c34 ?k34 ?a35 ?l35 ?c35 ?k35 ?a36 ?l36 ?c36 ?k36 ?z_ValueError ?z_isinstance ?z_tuple ?z_all ?z_list ?z_enumerate ?z_range ?z_bool ?z_int ?z_str ?z_len ?z_any ?z_sorted ?z_min ?gXTooGreat ?kXTooGreat ?bXTooGreat ?tXTooGreat ?hXTooGreat ?eX ?e1 ?e2 ?e3 ?e4 ?e5 ?e6 ?e7 ?e8
    (case a1 => k_is); (case l1 => k_is); (case c1 => k_is); (case k1 => k_is); (case a2 => k_is); (case l2 => k_is); (case c2 => k_is); (case k2 => k_is); (case a3 => k_is); (case l3 => k_is); (case c3 => k_is); (case k3 => k_is); (case a4 => k_is); (case l4 => k_is); (case c4 => k_is); (case k4 => k_is); (case a5 => k_is); (case l5 => k_is); (case c5 => k_is); (case k5 => k_is); (case a6 => k_is); (case l6 => k_is); (case c6 => k_is); (case k6 => k_is); (case a7 => k_is); (case l7 => k_is); (case c7 => k_is); (case k7 => k_is); (case a8 => k_is); (case l8 => k_is); (case c8 => k_is); (case k8 => k_is); (case a9 => k_is); (case l9 => k_is); (case c9 => k_is); (case k9 => k_is); (case a10 => k_is); (case l10 => k_is); (case c10 => k_is); (case k10 => k_is); (case qK10most => k_is); (case a11 => k_is); (case l11 => k_is); (case c11 => k_is); (case k11 => k_is); (case a12 => k_is); (case l12 => k_is); (case c12 => k_is); (case k12 => k_is); (case a13 => k_is); (case l13 => k_is); (case c13 => k_is); (case k13 => k_is); (case a14 => k_is); (case l14 => k_is); (case c14 => k_is); (case k14 => k_is); (case a15 => k_is); (case l15 => k_is); (case c15 => k_is); (case k15 => k_is); (case a16 => k_is); (case l16 => k_is); (case c16 => k_is); (case k16 => k_is); (case a17 => k_is); (case l17 => k_is); (case c17 => k_is); (case k17 => k_is); (case a18 => k_is); (case l18 => k_is); (case c18 => k_is); (case k18 => k_is); (case a19 => k_is); (case l19 => k_is); (case c19 => k_is); (case k19 => k_is); (case a20 => k_is); (case l20 => k_is); (case c20 => k_is); (case k20 => k_is); (case a21 => k_is); (case l21 => k_is); (case c21 => k_is); (case k21 => k_is); (case a22 => k_is); (case l22 => k_is); (case c22 => k_is); (case k22 => k_is); (case a23 => k_is); (case l23 => k_is); (case c23 => k_is); (case k23 => k_is); (case a24 => k_is); (case l24 => k_is); (case c24 => k_is); (case k24 => k_is); (case a25 => k_is); (case l25 => k_is); (case c25 => k_is); (case k25 => k_is); (case a26 => k_is); (case l26 => k_is); (case c26 => k_is); (case k26 => k_is); (case a27 => k_is); (case l27 => k_is); (case c27 => k_is); (case k27 => k_is); (case a28 => k_is); (case l28 => k_is); (case c28 => k_is); (case k28 => k_is); (case a29 => k_is); (case l29 => k_is); (case c29 => k_is); (case k29 => k_is); (case a30 => k_is); (case l30 => k_is); (case c30 => k_is); (case k30 => k_is); (case a31 => k_is); (case l31 => k_is); (case c31 => k_is); (case k31 => k_is); (case a32 => k_is); (case l32 => k_is); (case c32 => k_is); (case k32 => k_is); (case a33 => k_is); (case l33 => k_is); (case c33 => k_is); (case k33 => k_is); (case a34 => k_is); (case l34 => k_is); (case c34 => k_is); (case k34 => k_is); (case a35 => k_is); (case l35 => k_is); (case c35 => k_is); (case k35 => k_is); (case a36 => k_is); (case l36 => k_is); (case c36 => k_is); (case k36 => k_is); (case z_ValueError => k_is); (case z_isinstance => k_is); (case z_tuple => k_is); (case z_all => k_is); (case z_list => k_is); (case z_enumerate => k_is); (case z_range => k_is); (case z_bool => k_is); (case z_int => k_is); (case z_str => k_is); (case z_len => k_is); (case z_any => k_is); (case z_sorted => k_is); (case z_min => k_is); (case gXTooGreat => k_is); (case kXTooGreat => k_is); (case bXTooGreat => k_is); (case tXTooGreat => k_is); (case hXTooGreat => k_is)
    (case rK10most => exact ⟨_, rfl⟩)
    (case eX => k_exc)
    (case e1 => first | rfl | k_is)
    (case e2 => first | rfl | k_is)
    (case e3 => first | rfl | k_is)
    (case e4 => first | rfl | k_is)
    (case e5 => first | rfl | k_is)
    (case e6 => first | rfl | k_is)
    (case e7 => first | rfl | k_is)
    (case e8 => first | rfl | k_is)
