import PyProof.Rows.All
import Wide.All
import OpenK.AllK
import Wide.FinOn
import HandS.ForMost
import HandS.TupAny
import HandS.TupMul
import HandS.IsInst
import HandS.TupLe
import HandS.DictComp
import HandS.Conv
import HandS.Walk
import HandS.Evl
import KE.GoesMore
import PyProof.Draws
import PySem.Challenge.RW_fairtrees_k04_whole_reached_and_behind
set_option Elab.async false
set_option linter.all false
set_option maxRecDepth 100000
set_option maxHeartbeats 4000000
namespace Fx
open PySem PySem.Spec PyProof.Rows L2
def topS (i : Nat) : Stmt := PySem.Challenge.pw_fairtrees_k04_whole_reached_and_behind.main.body.getD i (.Pass ⟨0, 0, 0, 0⟩)

/-! ### heaps, data, the pool of draws -/
/-- a def of the text as its callers see it -/
structure Cal (P : Program) (w : World) (K : PySem.W.Frag) (mg : Str → Option Value) (base : Heap) (k : Nat) (x : Str) (ps : List Str) (sp : Sp) where
  f : Addr
  fd : FuncData
  G : FnOk P w K mg base CX0 k f fd ps sp
  g : mg x = some (.ref f)
  kp : PySem.W.keepIn K (.ref f) = true
  b : Binds K fd ps []
theorem same_upd {H : Hp} {p : Addr} {o : HO} (h : H p = none) : Same H (upd H p o) := fun b x e => by
  rw [upd_ne (ne_of_none e h)]
  exact e
/-- an object that H does not know may change -/
theorem smut {H H' : Hp} {p : Addr} {o : HO} (e : Same H H') (h : H p = none) : Same H (upd H' p o) := fun a u ha => by
  rw [upd_ne (ne_of_none ha h)]
  exact e a u ha
/-- all tuples stand -/
def Imm (H H' : Hp) : Prop := ∀ a xs, Rd H a (.tup xs) → Rd H' a (.tup xs)
theorem Imm.refl (H : Hp) : Imm H H := fun _ _ h => h
theorem Imm.trans {H H1 H2 : Hp} (a : Imm H H1) (b : Imm H1 H2) : Imm H H2 := fun x xs h => b x xs (a x xs h)
theorem simm {H H' : Hp} (e : Same H H') : Imm H H' := fun a xs h => by
  rcases h with h | ⟨o, h⟩
  · exact .inl (e _ _ h)
  · exact .inr ⟨o, e _ _ h⟩
theorem Imm.sq {K : PySem.W.Frag} {H H' : Hp} {a : Addr} {xs : List V} (e : Imm H H') (h : SqT K H a xs) : SqT K H' a xs := by
  rcases h with h | h
  · exact .inl (e _ _ h)
  · exact .inr h
theorem ssqt {K : PySem.W.Frag} {H H' : Hp} {a : Addr} {xs : List V} (e : Same H H') (h : SqT K H a xs) : SqT K H' a xs := (simm e).sq h
/-- a list that changes is no tuple -/
theorem Imm.list {H : Hp} {p : Addr} {xs : List V} {o : HO} (h : H p = some (.lst xs)) : Imm H (upd H p o) := fun a ys e => by
  rcases e with e | ⟨u, e⟩
  · exact .inl (by rw [upd_ne (ne_of h e (by intro q; cases q)).symm]; exact e)
  · exact .inr ⟨u, by rw [upd_ne (ne_of h e (by intro q; cases q)).symm]; exact e⟩
theorem Imm.new {H : Hp} {p : Addr} {o : HO} (h : H p = none) : Imm H (upd H p o) := simm (same_upd h)
/-- a list of addresses, each a tuple of such things -/
inductive Each {α : Type} (R : Addr → α → Prop) : List Addr → List α → Prop where
  | nil : Each R [] []
  | cons {a : Addr} {as : List Addr} {x : α} {xs : List α} (h : R a x) (t : Each R as xs) : Each R (a :: as) (x :: xs)
theorem Each.imp {α : Type} {R S : Addr → α → Prop} (f : ∀ a x, R a x → S a x) : ∀ {as : List Addr} {xs : List α}, Each R as xs → Each S as xs
  | _, _, .nil => .nil
  | _, _, .cons h t => .cons (f _ _ h) (t.imp f)
theorem Each.len {α : Type} {R : Addr → α → Prop} : ∀ {as : List Addr} {xs : List α}, Each R as xs → as.length = xs.length
  | _, _, .nil => rfl
  | _, _, .cons _ t => by rw [List.length_cons, List.length_cons, t.len]
theorem Each.get {α : Type} {R : Addr → α → Prop} : ∀ {as : List Addr} {xs : List α} {i : Nat} {a : Addr}, Each R as xs → as[i]? = some a → ∃ x, xs[i]? = some x ∧ R a x
  | _, _, _, _, .nil, h => by simp at h
  | _, _, 0, _, .cons (x := x) r _, h => by
    have e := Option.some.inj h
    subst e
    exact ⟨x, rfl, r⟩
  | _, _, i + 1, _, .cons _ t, h => by
    obtain ⟨x, h1, h2⟩ := t.get (i := i) (by simpa using h)
    exact ⟨x, by simpa using h1, h2⟩
theorem Each.getx {α : Type} {R : Addr → α → Prop} : ∀ {as : List Addr} {xs : List α} {i : Nat} {x : α}, Each R as xs → xs[i]? = some x → ∃ a, as[i]? = some a ∧ R a x
  | _, _, _, _, .nil, h => by simp at h
  | _, _, 0, _, .cons (a := a) r _, h => by
    have e := Option.some.inj h
    subst e
    exact ⟨a, rfl, r⟩
  | _, _, i + 1, _, .cons _ t, h => by
    obtain ⟨x, h1, h2⟩ := t.getx (i := i) (by simpa using h)
    exact ⟨x, by simpa using h1, h2⟩
theorem Each.snoc {α : Type} {R : Addr → α → Prop} {a : Addr} {x : α} (r : R a x) : ∀ {as : List Addr} {xs : List α}, Each R as xs → Each R (as ++ [a]) (xs ++ [x])
  | _, _, .nil => .cons r .nil
  | _, _, .cons h t => .cons h (t.snoc r)
theorem map_get {α : Type} {f : α → V} {xs : List α} {i : Nat} {v : V} (h : (xs.map f)[i]? = some v) : ∃ x, xs[i]? = some x ∧ v = f x := by
  rw [List.getElem?_map] at h
  cases e : xs[i]? with
  | none =>
    rw [e] at h
    cases h
  | some x =>
    rw [e] at h
    exact ⟨x, rfl, (Option.some.inj h).symm⟩
theorem get_map {α : Type} {f : α → V} {xs : List α} {i : Nat} {x : α} (h : xs[i]? = some x) : (xs.map f)[i]? = some (f x) := by
  rw [List.getElem?_map, h]
  rfl
theorem notdec {p : Prop} [Decidable p] (h : (!decide p) = true) : ¬ p := by simpa using h
theorem dec_of {p : Prop} [Decidable p] (h : ¬ ((!decide p) = true)) : p := by simpa using h
theorem ixN_nat {n j : Nat} (hj : j < n) : ixN n (j : Int) = some j := by
  unfold ixN
  rw [if_pos (by omega), if_pos (by omega)]
  simp
theorem ixN0 {n : Nat} (h : 0 < n) : ixN n 0 = some 0 := ixN_nat (j := 0) h
theorem six0 {n : Nat} (h : 0 < n) : seqIndex? 0 n = some 0 := by
  unfold seqIndex?
  simp
  omega
theorem szOk {n : Nat} (h : n ≤ 100000) : n ≤ sizeLine := Nat.le_trans h (by decide)
theorem szLt {n : Nat} (h : n < 100000) : n < sizeLine := Nat.lt_of_lt_of_le h (by decide)
theorem ty_sqt {K : PySem.W.Frag} {H : Hp} {a : Addr} {xs : List V} (h : SqT K H a xs) : TyX K H (.ref a) (.type "tuple") := by
  rcases h with (h | ⟨o, h⟩) | ⟨o, its, n, hk, hc, _⟩
  · exact .base (.tup h)
  · exact .fTuple h
  · exact .kTuple hk hc
/-- the pool's addresses: itself, its great numbers, its small ones -/
structure PA where
  p : Addr
  g : Addr
  s : Addr
def Off (a : PA) (b : Addr) : Prop := b ≠ a.p ∧ b ≠ a.g ∧ b ≠ a.s
structure Pool (H : Hp) (a : PA) (c : Nat) : Prop where
  ex : ∃ (gs ss : List Int) (st ct : Int), H a.p = some (.lst [.ref a.g, .ref a.s, .int st, .int ct]) ∧ H a.g = some (.lst (gs.map V.int)) ∧ H a.s = some (.lst (ss.map V.int)) ∧
    gs.length ≤ 63 ∧ ss.length ≤ 63 ∧ 0 ≤ st ∧ st < 2147483647 ∧ 0 ≤ ct ∧ ct ≤ c ∧ a.s ≠ a.g
/-- all but the pool stands -/
def Kp (a : PA) (H H' : Hp) : Prop := ∀ b o, H b = some o → Off a b → H' b = some o
theorem Kp.refl {a : PA} (H : Hp) : Kp a H H := fun _ _ h _ => h
theorem Kp.trans {a : PA} {H H1 H2 : Hp} (x : Kp a H H1) (y : Kp a H1 H2) : Kp a H H2 := fun c o h n => y c o (x c o h n) n
theorem skp {a : PA} {H H' : Hp} (s : Same H H') : Kp a H H' := fun b o h _ => s b o h
theorem Kp.mut {a : PA} {H H' : Hp} {q : Addr} {o : HO} (e : Kp a H H') (h : H q = none) : Kp a H (upd H' q o) := fun b u hb n => by
  rw [upd_ne (ne_of_none hb h)]
  exact e b u hb n
theorem Kp.free {a : PA} {H H' : Hp} {l : Addr} (k : Kp a H H') (h : H' l = none) (n : Off a l) : H l = none := by
  cases e : H l with
  | none => rfl
  | some o =>
    rw [k l o e n] at h
    cases h
theorem Pool.mono {H : Hp} {a : PA} {c c' : Nat} (P : Pool H a c) (h : c ≤ c') : Pool H a c' := by
  obtain ⟨gs, ss, st, ct, a1, a2, a3, a4, a5, a6, a7, a8, a9, a10⟩ := P.ex
  exact ⟨gs, ss, st, ct, a1, a2, a3, a4, a5, a6, a7, a8, by omega, a10⟩
theorem Pool.same {H H' : Hp} {a : PA} {c : Nat} (P : Pool H a c) (e : Same H H') : Pool H' a c := by
  obtain ⟨gs, ss, st, ct, a1, a2, a3, a4, a5, a6, a7, a8, a9, a10⟩ := P.ex
  exact ⟨gs, ss, st, ct, e _ _ a1, e _ _ a2, e _ _ a3, a4, a5, a6, a7, a8, a9, a10⟩
theorem Pool.off {H : Hp} {a : PA} {b : Addr} {c : Nat} (P : Pool H a c) (h : H b = none) : Off a b := by
  obtain ⟨gs, ss, st, ct, a1, a2, a3, a4, a5, a6, a7, a8, a9, a10⟩ := P.ex
  exact ⟨(ne_of_none a1 h).symm, (ne_of_none a2 h).symm, (ne_of_none a3 h).symm⟩
/-- what is no list is none of the pool's -/
theorem Pool.offo {H : Hp} {a : PA} {b : Addr} {c : Nat} {o : HO} (P : Pool H a c) (h : H b = some o) (n : ∀ xs, o ≠ .lst xs) : Off a b := by
  obtain ⟨gs, ss, st, ct, a1, a2, a3, a4, a5, a6, a7, a8, a9, a10⟩ := P.ex
  exact ⟨(ne_of a1 h (n _).symm).symm, (ne_of a2 h (n _).symm).symm, (ne_of a3 h (n _).symm).symm⟩
theorem Pool.imm {H H' : Hp} {a : PA} {c : Nat} (P : Pool H a c) (k : Kp a H H') : Imm H H' := fun b xs h => by
  rcases h with h | ⟨o, h⟩
  · exact .inl (k _ _ h (P.offo h fun _ q => by cases q))
  · exact .inr ⟨o, k _ _ h (P.offo h fun _ q => by cases q)⟩
/-- an object beside the pool is laid or changed -/
theorem Pool.upd {H : Hp} {a : PA} {b : Addr} {c : Nat} {o : HO} (P : Pool H a c) (n : Off a b) : Pool (upd H b o) a c := by
  obtain ⟨gs, ss, st, ct, a1, a2, a3, a4, a5, a6, a7, a8, a9, a10⟩ := P.ex
  exact ⟨gs, ss, st, ct, by rw [upd_ne n.1.symm]; exact a1, by rw [upd_ne n.2.1.symm]; exact a2, by rw [upd_ne n.2.2.symm]; exact a3, a4, a5, a6, a7, a8, a9, a10⟩
/-! ### rules within a comprehension's block: the written part by its name -/
section
variable {X : Cx}
theorem ixL (K : PySem.W.Frag) (h : X.K = K := by rfl) : IxR X (rIxL K) := by subst h; exact ix_list
theorem ixT (K : PySem.W.Frag) (h : X.K = K := by rfl) : IxR X (rIxT K) := by subst h; exact ix_tup
theorem inS (K : PySem.W.Frag) (h : X.K = K := by rfl) : OpR X (compareOp .In) (rIn K false) := by subst h; exact op_in_seq
theorem ninS (K : PySem.W.Frag) (h : X.K = K := by rfl) : OpR X (compareOp .NotIn) (rIn K true) := by subst h; exact op_notIn_seq
theorem lenS (K : PySem.W.Frag) (h : X.K = K := by rfl) : CallR X (.builtin "len") (fun xs H Q => ∃ p ys, xs = [.ref p] ∧ (SqL K H p ys ∨ SqT K H p ys) ∧ Q (.int ys.length) H) := by subst h; exact call_len_seq
theorem isiK (K : PySem.W.Frag) (h : X.K = K := by rfl) : CallR X (.builtin "isinstance") (rIsi K) := by subst h; exact call_isi
theorem tupOf (K : PySem.W.Frag) (h : X.K = K := by rfl) : CallR X (.type "tuple") (fun xs H Q => ∃ p ys, xs = [.ref p] ∧ ((SqL K H p ys ∧ ∀ l, H l = none → Q (.ref l) (upd H l (.tup ys))) ∨ (SqT K H p ys ∧ Q (.ref p) H))) := by subst h; exact call_tuple_of
theorem slL (K : PySem.W.Frag) (h : X.K = K := by rfl) : SlR X (rSlL K) := by subst h; exact sl_list
theorem slA (K : PySem.W.Frag) (h : X.K = K := by rfl) : SlR X (rSlA K) := by subst h; exact sl_tupA
theorem catA (K : PySem.W.Frag) (h : X.K = K := by rfl) : OpR X (binaryOp .Add) (rCatA K) := by subst h; exact op_catA
theorem sortS (K : PySem.W.Frag) (h : X.K = K := by rfl) : CallR X (.builtin "sorted") (rSortedS K) := by subst h; exact cr_sortedS
theorem sortI (K : PySem.W.Frag) (h : X.K = K := by rfl) : CallR X (.builtin "sorted") (rSorted K) := by subst h; exact cr_sorted
end
/-! ### comprehensions: what holds of the list so far -/
section
variable {K : PySem.W.Frag}
/-- over a range, its turns drawing from the pool (k draws a turn) -/
theorem lc_rangeP {lo : Int} {n j : Nat} {tt : TT} {te : TE} {vs : List Nat} {σ : L2.St} {H1 : Hp} {D : Addr} {Qd : Hp → Prop} {a : PA} {c0 : Nat} (k : Nat) (ok : Nat → List V → Prop)
    (P0 : Pool H1 a c0) (hD : H1 D = none) (hn : n ≤ 100000) (h0 : ok 0 []) (hw : ∀ x, wipe ((wipe σ vs).set j (some x)) vs = wipe σ vs)
    (turn : ∀ (i : Nat) (H : Hp) (acc : List V), i < n → Pool H a (c0 + i * k) → Kp a H1 H → ok i acc → acc.length ≤ i → ∀ (N1 : V → Hp → Prop) (N2 : Hp → Prop),
      (∀ y H', Pool H' a (c0 + i * k + k) → Kp a H H' → ok (i + 1) (acc ++ [y]) → N1 y H') → (∀ H', Pool H' a (c0 + i * k + k) → Kp a H H' → ok (i + 1) acc → N2 H') →
      tt ((wipe σ vs).set j (some (.int (lo + i)))) H fun b H3 => if b = true then te ((wipe σ vs).set j (some (.int (lo + i)))) H3 N1 else N2 H3)
    (done : ∀ (H : Hp) (acc : List V), Pool H a (c0 + n * k) → Kp a H1 H → H D = some (.lst acc) → acc.length ≤ n → ok n acc → Off a D → Qd H) :
    ∃ W : Nat → Nat → Hp → Prop, (∃ m, W 0 m (upd H1 D (.lst []))) ∧ ∀ i m H, W i m H →
      ((Itr lo n).stop i H ∧ Qd H) ∨ ((Itr lo n).go i H ∧ ∃ Nx : Hp → Prop, (∀ H', Nx H' → ∃ m', m' < m ∧ W (i + 1) m' H') ∧ ∀ x H', (Itr lo n).yld i H x H' → (gName j) x (wipe σ vs) H' fun σ2 H2 => wipe σ2 vs = wipe σ vs ∧ tt σ2 H2 fun b H3 =>
        if b = true then te σ2 H3 fun y H4 => ∃ acc, H4 D = some (.lst acc) ∧ acc.length < sizeLine ∧ Nx (upd H4 D (.lst (acc ++ [y]))) else Nx H3) := by
  have oD : Off a D := P0.off hD
  refine lc_range (lo := lo) (n := n) (fun i H => ∃ acc, Pool H a (c0 + i * k) ∧ Kp a H1 H ∧ H D = some (.lst acc) ∧ acc.length ≤ i ∧ ok i acc) ⟨[], ?_, skp (same_upd hD), upd_same, Nat.le_refl _, h0⟩ (fun i H hi p => ?_) (fun H p => ?_)
  · rw [Nat.zero_mul]
    exact P0.upd oD
  · obtain ⟨acc, p1, p2, p3, p4, p5⟩ := p
    refine ⟨hw _, turn i H acc hi p1 p2 p5 p4 _ _ (fun y H' q1 q2 q3 => ⟨acc, q2 _ _ p3 oD, szLt (by omega), acc ++ [y], ?_, ?_, upd_same, ?_, q3⟩) (fun H' q1 q2 q3 => ⟨acc, ?_, p2.trans q2, q2 _ _ p3 oD, by omega, q3⟩)⟩
    · rw [Nat.succ_mul, ← Nat.add_assoc]
      exact q1.upd oD
    · exact Kp.mut (p2.trans q2) hD
    · rw [List.length_append]
      show acc.length + 1 ≤ i + 1
      omega
    · rw [Nat.succ_mul, ← Nat.add_assoc]
      exact q1
  · obtain ⟨acc, p1, p2, p3, p4, p5⟩ := p
    exact done H acc p1 p2 p3 p4 p5 oD
/-- over a walked thing, its turns changing nothing that stood -/
theorem lc_rangeS {lo : Int} {n j : Nat} {tt : TT} {te : TE} {vs : List Nat} {σ : L2.St} {H1 : Hp} {D : Addr} {Qd : Hp → Prop} (ok : Nat → List V → Prop)
    (hD : H1 D = none) (hn : n ≤ 100000) (h0 : ok 0 []) (hw : ∀ x, wipe ((wipe σ vs).set j (some x)) vs = wipe σ vs)
    (turn : ∀ (i : Nat) (H : Hp) (acc : List V), i < n → Same H1 H → ok i acc → acc.length ≤ i → ∀ (N1 : V → Hp → Prop) (N2 : Hp → Prop),
      (∀ y H', Same H H' → ok (i + 1) (acc ++ [y]) → N1 y H') → (∀ H', Same H H' → ok (i + 1) acc → N2 H') →
      tt ((wipe σ vs).set j (some (.int (lo + i)))) H fun b H3 => if b = true then te ((wipe σ vs).set j (some (.int (lo + i)))) H3 N1 else N2 H3)
    (done : ∀ (H : Hp) (acc : List V), Same H1 H → H D = some (.lst acc) → acc.length ≤ n → ok n acc → Qd H) :
    ∃ W : Nat → Nat → Hp → Prop, (∃ m, W 0 m (upd H1 D (.lst []))) ∧ ∀ i m H, W i m H →
      ((Itr lo n).stop i H ∧ Qd H) ∨ ((Itr lo n).go i H ∧ ∃ Nx : Hp → Prop, (∀ H', Nx H' → ∃ m', m' < m ∧ W (i + 1) m' H') ∧ ∀ x H', (Itr lo n).yld i H x H' → (gName j) x (wipe σ vs) H' fun σ2 H2 => wipe σ2 vs = wipe σ vs ∧ tt σ2 H2 fun b H3 =>
        if b = true then te σ2 H3 fun y H4 => ∃ acc, H4 D = some (.lst acc) ∧ acc.length < sizeLine ∧ Nx (upd H4 D (.lst (acc ++ [y]))) else Nx H3) := by
  refine lc_range (lo := lo) (n := n) (fun i H => ∃ acc, Same H1 H ∧ H D = some (.lst acc) ∧ acc.length ≤ i ∧ ok i acc) ⟨[], same_upd hD, upd_same, Nat.le_refl _, h0⟩ (fun i H hi p => ?_) (fun H p => ?_)
  · obtain ⟨acc, p2, p3, p4, p5⟩ := p
    refine ⟨hw _, turn i H acc hi p2 p5 p4 _ _ (fun y H' q2 q3 => ⟨acc, q2 _ _ p3, szLt (by omega), acc ++ [y], smut (p2.trans q2) hD, upd_same, ?_, q3⟩) (fun H' q2 q3 => ⟨acc, p2.trans q2, q2 _ _ p3, by omega, q3⟩)⟩
    rw [List.length_append]
    show acc.length + 1 ≤ i + 1
    omega
  · obtain ⟨acc, p2, p3, p4, p5⟩ := p
    exact done H acc p2 p3 p4 p5
theorem lc_listS {a : Addr} {xs : List V} {j : Nat} {tt : TT} {te : TE} {vs : List Nat} {σ : L2.St} {H1 : Hp} {D : Addr} {Qd : Hp → Prop} (ok : Nat → List V → Prop)
    (hx : SqL K H1 a xs) (hD : H1 D = none) (hn : xs.length ≤ 100000) (h0 : ok 0 []) (hw : ∀ x, wipe ((wipe σ vs).set j (some x)) vs = wipe σ vs)
    (turn : ∀ (i : Nat) (x : V) (H : Hp) (acc : List V), xs[i]? = some x → Same H1 H → ok i acc → acc.length ≤ i → ∀ (N1 : V → Hp → Prop) (N2 : Hp → Prop),
      (∀ y H', Same H H' → ok (i + 1) (acc ++ [y]) → N1 y H') → (∀ H', Same H H' → ok (i + 1) acc → N2 H') →
      tt ((wipe σ vs).set j (some x)) H fun b H3 => if b = true then te ((wipe σ vs).set j (some x)) H3 N1 else N2 H3)
    (done : ∀ (H : Hp) (acc : List V), Same H1 H → H D = some (.lst acc) → acc.length ≤ xs.length → ok xs.length acc → Qd H) :
    ∃ W : Nat → Nat → Hp → Prop, (∃ m, W 0 m (upd H1 D (.lst []))) ∧ ∀ i m H, W i m H →
      ((Itl K a).stop i H ∧ Qd H) ∨ ((Itl K a).go i H ∧ ∃ Nx : Hp → Prop, (∀ H', Nx H' → ∃ m', m' < m ∧ W (i + 1) m' H') ∧ ∀ x H', (Itl K a).yld i H x H' → (gName j) x (wipe σ vs) H' fun σ2 H2 => wipe σ2 vs = wipe σ vs ∧ tt σ2 H2 fun b H3 =>
        if b = true then te σ2 H3 fun y H4 => ∃ acc, H4 D = some (.lst acc) ∧ acc.length < sizeLine ∧ Nx (upd H4 D (.lst (acc ++ [y]))) else Nx H3) := by
  refine lc_list (xs := xs) (fun i H => ∃ acc, Same H1 H ∧ H D = some (.lst acc) ∧ acc.length ≤ i ∧ ok i acc) ⟨[], same_upd hD, upd_same, Nat.le_refl _, h0⟩ (fun i H _ p => ?_) (fun i x H hi p => ?_) (fun H p => ?_)
  · obtain ⟨acc, p2, _⟩ := p
    exact p2.seq hx
  · obtain ⟨acc, p2, p3, p4, p5⟩ := p
    have hil : i < xs.length := (List.getElem?_eq_some_iff.mp hi).1
    refine ⟨hw _, turn i x H acc hi p2 p5 p4 _ _ (fun y H' q2 q3 => ⟨acc, q2 _ _ p3, szLt (by omega), acc ++ [y], smut (p2.trans q2) hD, upd_same, ?_, q3⟩) (fun H' q2 q3 => ⟨acc, p2.trans q2, q2 _ _ p3, by omega, q3⟩)⟩
    rw [List.length_append]
    show acc.length + 1 ≤ i + 1
    omega
  · obtain ⟨acc, p2, p3, p4, p5⟩ := p
    exact done H acc p2 p3 p4 p5
theorem lc_tupS {a : Addr} {xs : List V} {j : Nat} {tt : TT} {te : TE} {vs : List Nat} {σ : L2.St} {H1 : Hp} {D : Addr} {Qd : Hp → Prop} (ok : Nat → List V → Prop)
    (hx : SqT K H1 a xs) (hD : H1 D = none) (hn : xs.length ≤ 100000) (h0 : ok 0 []) (hw : ∀ x, wipe ((wipe σ vs).set j (some x)) vs = wipe σ vs)
    (turn : ∀ (i : Nat) (x : V) (H : Hp) (acc : List V), xs[i]? = some x → Same H1 H → ok i acc → acc.length ≤ i → ∀ (N1 : V → Hp → Prop) (N2 : Hp → Prop),
      (∀ y H', Same H H' → ok (i + 1) (acc ++ [y]) → N1 y H') → (∀ H', Same H H' → ok (i + 1) acc → N2 H') →
      tt ((wipe σ vs).set j (some x)) H fun b H3 => if b = true then te ((wipe σ vs).set j (some x)) H3 N1 else N2 H3)
    (done : ∀ (H : Hp) (acc : List V), Same H1 H → H D = some (.lst acc) → acc.length ≤ xs.length → ok xs.length acc → Qd H) :
    ∃ W : Nat → Nat → Hp → Prop, (∃ m, W 0 m (upd H1 D (.lst []))) ∧ ∀ i m H, W i m H →
      ((Itt K a).stop i H ∧ Qd H) ∨ ((Itt K a).go i H ∧ ∃ Nx : Hp → Prop, (∀ H', Nx H' → ∃ m', m' < m ∧ W (i + 1) m' H') ∧ ∀ x H', (Itt K a).yld i H x H' → (gName j) x (wipe σ vs) H' fun σ2 H2 => wipe σ2 vs = wipe σ vs ∧ tt σ2 H2 fun b H3 =>
        if b = true then te σ2 H3 fun y H4 => ∃ acc, H4 D = some (.lst acc) ∧ acc.length < sizeLine ∧ Nx (upd H4 D (.lst (acc ++ [y]))) else Nx H3) := by
  refine lc_tup (xs := xs) (fun i H => ∃ acc, Same H1 H ∧ H D = some (.lst acc) ∧ acc.length ≤ i ∧ ok i acc) ⟨[], same_upd hD, upd_same, Nat.le_refl _, h0⟩ (fun i H _ p => ?_) (fun i x H hi p => ?_) (fun H p => ?_)
  · obtain ⟨acc, p2, _⟩ := p
    exact ssqt p2 hx
  · obtain ⟨acc, p2, p3, p4, p5⟩ := p
    have hil : i < xs.length := (List.getElem?_eq_some_iff.mp hi).1
    refine ⟨hw _, turn i x H acc hi p2 p5 p4 _ _ (fun y H' q2 q3 => ⟨acc, q2 _ _ p3, szLt (by omega), acc ++ [y], smut (p2.trans q2) hD, upd_same, ?_, q3⟩) (fun H' q2 q3 => ⟨acc, p2.trans q2, q2 _ _ p3, by omega, q3⟩)⟩
    rw [List.length_append]
    show acc.length + 1 ≤ i + 1
    omega
  · obtain ⟨acc, p2, p3, p4, p5⟩ := p
    exact done H acc p2 p3 p4 p5
end

/-- what the top leaves of the names that the text reads -/
structure Bi (mg : Str → Option Value) : Prop where
  tuple : mg "tuple" = none
  range : mg "range" = none
  len : mg "len" = none
  sorted : mg "sorted" = none
  isinstance : mg "isinstance" = none
  int : mg "int" = none
  list : mg "list" = none
  bool : mg "bool" = none
  enumerate : mg "enumerate" = none

/-! ### _law_pool, _law_draw -/
abbrev s_law_pool : Stmt := topS 4
theorem sc_law_pool : FnScope ["_law_script", "_law_great", "_law_cell"] ["_law_script"] (defScope s_law_pool) := ⟨rfl, rfl, rfl, by decide +kernel, rfl, by decide +kernel, by decide +kernel⟩
abbrev s_law_draw : Stmt := topS 5
theorem sc_law_draw : FnScope ["_law_pool_here", "_law_many", "_law_cell"] ["_law_pool_here", "_law_many"] (defScope s_law_draw) := ⟨rfl, rfl, rfl, by decide +kernel, rfl, by decide +kernel, by decide +kernel⟩
section
variable {P : Program} {w : World} {K : PySem.W.Frag} {mg : Str → Option Value} {base : Heap}
def spPool (K : PySem.W.Frag) : Sp := fun vs H Q _ => ∃ (l : Addr) (ns : List Int), vs = [.ref l] ∧ SqL K H l (ns.map V.int) ∧ ns.length ≤ 63 ∧ ∀ H' a, Same H H' → Pool H' a 0 → Q (.ref a.p) H'
theorem ok_pool {f : Addr} {fd : FuncData} (F : Fun K "_law_pool" "_law_pool" s_law_pool f fd) : FnOk P w K mg base CX0 1 f fd ["_law_script"] (spPool K) := by
  refine F.ok sc_law_pool (fun vs H Q E h => ?_) (fun cdv A outer s H vs Q E hr h => ?_)
  · obtain ⟨l, ns, rfl, _⟩ := h
    rfl
  · obtain ⟨l, ns, rfl, hS, hlen, q⟩ := h
    refine ⟨_, (pss_cons (ps_setLc (i := 1) (own := [("_law_cell", 2)]) (g := gName 2) (by rfl) sc_law_pool.nd rfl rfl (sw_true rfl rfl rfl (by decide +kernel)) (pi_list (pv 0)) (blkOk_by (own := [("_law_cell", 2)]) (N := ["_law_script", "_law_great", "_law_cell"]) (sc := defScope s_law_pool) (by decide +kernel)) (fun _ _ _ _ _ => (pg_name (i := 2) sc_law_pool.nd rfl (.inl rfl))) (fun _ _ _ _ _ => (pts_one (pt_cmpR op_ge (pv 2) (pe_op op_pow pe_int pe_int) (nomark _)))) (fun _ _ _ _ _ => (pv 2)))
      (pss_one (ps_ret (pe_lst (pa_cons (pv 1) (pa_cons (pe_lc (own := [("_law_cell", 2)]) (g := gName 2) rfl sc_law_pool.nd (pi_list (pv 0)) (blkOk_by (own := [("_law_cell", 2)]) (N := ["_law_script", "_law_great", "_law_cell"]) (sc := defScope s_law_pool) (by decide +kernel)) (fun _ _ _ _ _ => (pg_name (i := 2) sc_law_pool.nd rfl (.inl rfl))) (fun _ _ _ _ _ => (pts_one (pt_cmpR op_lt (pv 2) (pe_op op_pow pe_int pe_int) (nomark _)))) (fun _ _ _ _ _ => (pv 2))) (pa_cons pe_int (pa_cons pe_int pa_nil)))))))), ?_⟩
    refine ⟨_, rfl, l, rfl, ⟨_, hS⟩, fun D hD => lc_listS (K := K) (a := l) (xs := ns.map V.int) (fun i acc => ∃ gs : List Int, acc = gs.map V.int) hS hD (by rw [List.length_map]; omega) ⟨[], rfl⟩ (fun _ => rfl) ?_ ?_⟩
    · intro i x H1 acc hx s1 ⟨gs, hg⟩ _ N1 N2 k1 k2
      obtain ⟨z, hz, rfl⟩ := map_get hx
      refine ⟨_, rfl, _, _, rfl, rfl, ⟨by decide, by decide, by decide⟩, _, _, rfl, rfl, _, rfl, ite2 (fun e => ?_) (fun e => ?_)⟩
      · exact ⟨_, rfl, k1 _ _ (Same.refl _) ⟨gs ++ [z], by rw [hg, List.map_append]; rfl⟩⟩
      · exact k2 _ (Same.refl _) ⟨gs, hg⟩
    · intro H1 acc s1 hD1 la ⟨gs, hg⟩
      subst hg
      have hS1 : SqL K H1 l (ns.map V.int) := s1.seq hS
      refine ⟨_, rfl, _, rfl, l, rfl, ⟨_, hS1⟩, fun D2 hD2 => lc_listS (K := K) (a := l) (xs := ns.map V.int) (fun i acc => ∃ gs : List Int, acc = gs.map V.int) hS1 hD2 (by rw [List.length_map]; omega) ⟨[], rfl⟩ (fun _ => rfl) ?_ ?_⟩
      · intro i x H2 acc hx s2 ⟨gs, hg⟩ _ N1 N2 k1 k2
        obtain ⟨z, hz, rfl⟩ := map_get hx
        refine ⟨_, rfl, _, _, rfl, rfl, ⟨by decide, by decide, by decide⟩, _, _, rfl, rfl, _, rfl, ite2 (fun e => ?_) (fun e => ?_)⟩
        · exact ⟨_, rfl, k1 _ _ (Same.refl _) ⟨gs ++ [z], by rw [hg, List.map_append]; rfl⟩⟩
        · exact k2 _ (Same.refl _) ⟨gs, hg⟩
      · intro H2 acc s2 hD2' la2 ⟨ss, hs⟩
        subst hs
        refine ⟨by show 4 ≤ sizeLine; decide, fun p hp => q _ ⟨p, D, D2⟩ ((s1.trans s2).trans (same_upd hp)) ⟨gs, ss, 5, 0, upd_same, ?_, ?_, ?_, ?_, by decide, by decide, by decide, by decide, ?_⟩⟩
        · show upd H2 p _ D = _
          rw [upd_ne (ne_of_none (s2 _ _ hD1) hp)]
          exact s2 _ _ hD1
        · show upd H2 p _ D2 = _
          rw [upd_ne (ne_of_none hD2' hp)]
          exact hD2'
        · rw [List.length_map, List.length_map] at la
          omega
        · rw [List.length_map, List.length_map] at la2
          omega
        · exact (ne_of_none hD1 hD2).symm
def spDraw : Sp := fun vs H Q _ => ∃ (a : PA) (c : Nat) (m : Int), vs = [.ref a.p, .int m] ∧ Pool H a c ∧ c < 1000000 ∧ 0 < m ∧ m < 1073741824 ∧
  ∀ H' r, 0 ≤ r → r < m → Pool H' a (c + 1) → Kp a H H' → Q (.int r) H'
theorem ok_draw {f : Addr} {fd : FuncData} (F : Fun K "_law_draw" "_law_draw" s_law_draw f fd) (T : Bi mg) : FnOk P w K mg base CX0 1 f fd ["_law_pool_here", "_law_many"] spDraw := by
  refine F.ok sc_law_draw (fun vs H Q E h => ?_) (fun cdv A outer s H vs Q E hr h => ?_)
  · obtain ⟨a, c, m, rfl, _⟩ := h
    rfl
  · obtain ⟨⟨p, g, s⟩, c, m, rfl, PP, hc, hm0, hm1, q⟩ := h
    obtain ⟨gs, ss, st, ct, a1, a2, a3, a4, a5, a6, a7, a8, a9, a10⟩ := PP.ex
    have npg : p ≠ g := ne_of a1 a2 (by intro q; have := HO.lst.inj q; cases gs <;> cases this)
    have nps : p ≠ s := ne_of a1 a3 (by intro q; have := HO.lst.inj q; cases ss <;> cases this)
    refine ⟨_, (pss_cons (ps_if (pt_cmpR op_gt (pe_callB call_len_seq (by rfl) T.len PySem.boot_len (pa_cons (pe_ix ix_list (pv 0) pe_int (fun _ _ => rfl)) pa_nil)) pe_int (nomark _))
        (pss_cons (ps_set (i := 2) sc_law_draw.nd rfl (.inl rfl) (pe_ix ix_list (pe_ix ix_list (pv 0) pe_int (fun _ _ => rfl)) pe_int (fun _ _ => rfl)))
        (pss_cons (ps_asg (pe_op op_fdiv (pv 2) (pv 1)) (pg_sub (pe_ix ix_list (pv 0) pe_int (fun _ _ => rfl)) pe_int set_list))
        (pss_cons (ps_if (pt_cmpR op_eq (pe_op op_fdiv (pv 2) (pv 1)) pe_int (nomark _))
          (pss_one (ps_expr (pe_bm PySem.F.plainAttrs_list PySem.F.slot_list_pop PySem.F.type_list_pop mt_popAt (pe_ix ix_list (pv 0) pe_int (fun _ _ => rfl)) (pa_cons pe_int pa_nil))))
          pss_nil)
        (pss_one (ps_ret (pe_op op_mod (pv 2) (pv 1)))))))
        pss_nil)
      (pss_cons (ps_asg (pe_op op_add (pe_ix ix_list (pv 0) pe_int (fun _ _ => rfl)) pe_int) (pg_sub (pv 0) pe_int set_list))
      (pss_cons (ps_set (i := 2) sc_law_draw.nd rfl (.inl rfl) pe_int)
      (pss_cons (ps_if (pt_cmpR op_gt (pe_callB call_len_seq (by rfl) T.len PySem.boot_len (pa_cons (pe_ix ix_list (pv 0) pe_int (fun _ _ => rfl)) pa_nil)) pe_int (nomark _))
        (pss_one (ps_set (i := 2) sc_law_draw.nd rfl (.inl rfl) (pe_ix ix_list (pe_ix ix_list (pv 0) pe_int (fun _ _ => rfl)) (pe_op op_mod (pe_ix ix_list (pv 0) pe_int (fun _ _ => rfl)) (pe_callB call_len_seq (by rfl) T.len PySem.boot_len (pa_cons (pe_ix ix_list (pv 0) pe_int (fun _ _ => rfl)) pa_nil))) (fun _ _ => rfl))))
        pss_nil)
      (pss_cons (ps_set (i := 2) sc_law_draw.nd rfl (.inl rfl) (pe_op op_mul (pe_op op_mod (pv 2) pe_int) (pe_op op_add (pe_op op_mul (pe_ix ix_list (pv 0) pe_int (fun _ _ => rfl)) (pe_ix ix_list (pv 0) pe_int (fun _ _ => rfl))) pe_int)))
      (pss_cons (ps_asg (pe_op op_mod (pe_op op_add (pe_op op_add (pe_op op_mul (pe_ix ix_list (pv 0) pe_int (fun _ _ => rfl)) pe_int) (pv 2)) (pe_op op_mul pe_int (pe_ix ix_list (pv 0) pe_int (fun _ _ => rfl)))) pe_int) (pg_sub (pv 0) pe_int set_list))
      (pss_one (ps_ret (pe_op op_mod (pe_op op_fdiv (pe_op op_mod (pe_op op_pow (pe_ix ix_list (pv 0) pe_int (fun _ _ => rfl)) pe_int) pe_int) pe_int) (pv 1)))))))))), ?_⟩
    -- if len(pool[0]) > 0
    refine ⟨_, rfl, p, _, _, _, rfl, rfl, SqL.of a1, at_of (j := 0) rfl rfl, g, _, rfl, .inl (SqL.of a2), _, _, rfl, rfl, _, rfl, ite2 (fun e => ?_) (fun e => ?_)⟩
    · obtain ⟨z, r, rfl⟩ : ∃ z r, gs = z :: r := by
        cases gs with
        | nil => exact absurd e (by decide)
        | cons z r => exact ⟨z, r, rfl⟩
      refine ⟨_, rfl, p, _, _, _, rfl, rfl, SqL.of a1, at_of (j := 0) rfl rfl, g, _, _, .int z, rfl, rfl, SqL.of a2, at_of (j := 0) rfl rfl, ?_⟩
      have a1' : ∀ o, upd H g o p = some (.lst [.ref g, .ref s, .int st, .int ct]) := fun o => by
        rw [upd_ne npg]
        exact a1
      have a3' : ∀ o, upd H g o s = some (.lst (ss.map V.int)) := fun o => by
        rw [upd_ne a10]
        exact a3
      refine ⟨_, rfl, _, rfl, _, _, rfl, rfl, ⟨hm0, hm1⟩, _, rfl, p, _, _, _, rfl, rfl, SqL.of a1, at_of (j := 0) rfl rfl, g, _, 0, 0, rfl, rfl, a2, ixN0 (by simp), ?_⟩
      refine ⟨_, rfl, _, rfl, _, _, rfl, rfl, ⟨hm0, hm1⟩, rfl, _, rfl, ite2 (fun e0 => ?_) (fun e0 => ?_)⟩
      · refine ⟨_, rfl, p, _, _, _, rfl, rfl, SqL.of (a1' _), at_of (j := 0) rfl rfl, .inl ⟨rfl, _, SqL.of upd_same⟩, g, _, 0, 0, _, rfl, rfl, upd_same, by decide, by decide, six0 (by simp), rfl, ?_⟩
        refine ⟨_, rfl, _, rfl, _, _, rfl, rfl, hm0, ?_⟩
        refine q _ _ (Int.emod_nonneg _ (by omega)) (Int.emod_lt_of_pos _ hm0) ⟨r, ss, st, ct, ?_, ?_, ?_, ?_, a5, a6, a7, a8, by omega, a10⟩ (fun b o hb n => ?_)
        · rw [upd_upd]
          exact a1' _
        · show upd _ g _ g = _
          rw [upd_same]
          rfl
        · rw [upd_upd]
          exact a3' _
        · simp at a4
          omega
        · rw [upd_ne n.2.1, upd_ne n.2.1]
          exact hb
      · refine ⟨_, rfl, _, rfl, _, _, rfl, rfl, hm0, ?_⟩
        refine q _ _ (Int.emod_nonneg _ (by omega)) (Int.emod_lt_of_pos _ hm0) ⟨(z / m) :: r, ss, st, ct, a1' _, ?_, a3' _, ?_, a5, a6, a7, a8, by omega, a10⟩ (fun b o hb n => ?_)
        · show upd _ g _ g = _
          rw [upd_same]
          rfl
        · simpa using a4
        · rw [upd_ne n.2.1]
          exact hb
    · -- pool[3] = pool[3] + 1
      refine ⟨_, rfl, p, _, _, _, rfl, rfl, SqL.of a1, at_of (j := 3) rfl rfl, _, _, rfl, rfl, _, rfl, p, _, 3, 3, rfl, rfl, a1, rfl, ?_⟩
      have w1 : upd H p (.lst [.ref g, .ref s, .int st, .int (ct + 1)]) p = some (.lst [.ref g, .ref s, .int st, .int (ct + 1)]) := upd_same
      have w2 : ∀ o, upd H p o g = some (.lst (gs.map V.int)) := fun o => by
        rw [upd_ne npg.symm]
        exact a2
      have w3 : ∀ o, upd H p o s = some (.lst (ss.map V.int)) := fun o => by
        rw [upd_ne nps.symm]
        exact a3
      -- cell = 0; if len(pool[1]) > 0
      refine ⟨_, rfl, p, _, _, _, rfl, rfl, SqL.of w1, at_of (j := 1) rfl rfl, s, _, rfl, .inl (SqL.of (w3 _)), _, _, rfl, rfl, _, rfl, ite2 (fun e => ?_) (fun e => ?_)⟩
      · have l0 : 0 < ss.length := by
          have := of_decide_eq_true e
          simpa using this
        have l1 : 0 ≤ (ct + 1) % (ss.length : Int) := Int.emod_nonneg _ (by omega)
        have l2 : (ct + 1) % (ss.length : Int) < ss.length := Int.emod_lt_of_pos _ (by omega)
        obtain ⟨j, ej⟩ : ∃ j : Nat, (ct + 1) % (ss.length : Int) = (j : Int) := ⟨_, (Int.toNat_of_nonneg l1).symm⟩
        have hj : j < ss.length := by omega
        have gj : (ss.map V.int)[j]? = some (.int ss[j]) := get_map (List.getElem?_eq_getElem hj)
        refine ⟨_, rfl, p, _, _, _, rfl, rfl, SqL.of w1, at_of (j := 1) rfl rfl, _, rfl, p, _, _, _, rfl, rfl, SqL.of w1, at_of (j := 3) rfl rfl, _, rfl, p, _, _, _, rfl, rfl, SqL.of w1, at_of (j := 1) rfl rfl, s, _, rfl, .inl (SqL.of (w3 _)), _, _, rfl, rfl, (by rw [List.length_map]; omega),
          s, _, _, _, rfl, rfl, SqL.of (w3 _), at_of (by rw [List.length_map]; exact ej) gj, ?_⟩
        generalize ss[j] = y
        refine ⟨_, rfl, _, _, rfl, rfl, (by show (0 : Int) < _; decide), _, rfl, p, _, _, _, rfl, rfl, SqL.of w1, at_of (j := 3) rfl rfl, _, rfl, p, _, _, _, rfl, rfl, SqL.of w1, at_of (j := 3) rfl rfl, _, _, rfl, rfl, .inl ⟨by omega, by omega⟩, _, _, rfl, rfl, _, _, rfl, rfl, .inl ⟨by omega, by omega⟩, ?_⟩
        refine ⟨_, rfl, p, _, _, _, rfl, rfl, SqL.of w1, at_of (j := 2) rfl rfl, _, _, rfl, rfl, .inl ⟨by omega, by omega⟩, _, rfl, _, _, rfl, rfl, _, rfl, p, _, _, _, rfl, rfl, SqL.of w1, at_of (j := 3) rfl rfl, _, _, rfl, rfl, .inl ⟨by omega, by omega⟩, _, _, rfl, rfl, _, _, rfl, rfl, (by show (0 : Int) < _; decide), _, rfl, p, _, 2, 2, rfl, rfl, w1, rfl, ?_⟩
        dsimp only [List.set]
        generalize hz : ((st * 48271 + y % 2147483629 * ((ct + 1) * (ct + 1) + 1) + 97 * (ct + 1)) % 2147483647 : Int) = z
        have hz0 : 0 ≤ z := by omega
        have hz1 : z < 2147483647 := by omega
        have w5 : upd (upd H p (.lst [.ref g, .ref s, .int st, .int (ct + 1)])) p (.lst [.ref g, .ref s, .int z, .int (ct + 1)]) p = some (.lst [.ref g, .ref s, .int z, .int (ct + 1)]) := upd_same
        refine ⟨_, rfl, p, _, _, _, rfl, rfl, SqL.of w5, at_of (j := 2) rfl rfl, _, _, rfl, rfl, ⟨by decide, by decide, by omega⟩, _, _, rfl, rfl, (by show (0 : Int) < _; decide), _, _, rfl, rfl, ⟨by decide, by decide⟩, _, rfl, _, _, rfl, rfl, hm0, ?_⟩
        refine q _ _ (Int.emod_nonneg _ (by omega)) (Int.emod_lt_of_pos _ hm0) ⟨gs, ss, z, ct + 1, w5, ?_, ?_, a4, a5, hz0, hz1, by omega, by omega, a10⟩ (fun b o hb n => ?_)
        · rw [upd_upd]
          exact w2 _
        · rw [upd_upd]
          exact w3 _
        · rw [upd_upd, upd_ne n.1]
          exact hb
      · refine ⟨_, rfl, _, _, rfl, rfl, (by show (0 : Int) < _; decide), _, rfl, p, _, _, _, rfl, rfl, SqL.of w1, at_of (j := 3) rfl rfl, _, rfl, p, _, _, _, rfl, rfl, SqL.of w1, at_of (j := 3) rfl rfl, _, _, rfl, rfl, .inl ⟨by omega, by omega⟩, _, _, rfl, rfl, _, _, rfl, rfl, .inl ⟨by omega, by omega⟩, ?_⟩
        refine ⟨_, rfl, p, _, _, _, rfl, rfl, SqL.of w1, at_of (j := 2) rfl rfl, _, _, rfl, rfl, .inl ⟨by omega, by omega⟩, _, rfl, _, _, rfl, rfl, _, rfl, p, _, _, _, rfl, rfl, SqL.of w1, at_of (j := 3) rfl rfl, _, _, rfl, rfl, .inl ⟨by omega, by omega⟩, _, _, rfl, rfl, _, _, rfl, rfl, (by show (0 : Int) < _; decide), _, rfl, p, _, 2, 2, rfl, rfl, w1, rfl, ?_⟩
        dsimp only [List.set]
        generalize hz : ((st * 48271 + 0 % 2147483629 * ((ct + 1) * (ct + 1) + 1) + 97 * (ct + 1)) % 2147483647 : Int) = z
        have hz0 : 0 ≤ z := by omega
        have hz1 : z < 2147483647 := by omega
        have w5 : upd (upd H p (.lst [.ref g, .ref s, .int st, .int (ct + 1)])) p (.lst [.ref g, .ref s, .int z, .int (ct + 1)]) p = some (.lst [.ref g, .ref s, .int z, .int (ct + 1)]) := upd_same
        refine ⟨_, rfl, p, _, _, _, rfl, rfl, SqL.of w5, at_of (j := 2) rfl rfl, _, _, rfl, rfl, ⟨by decide, by decide, by omega⟩, _, _, rfl, rfl, (by show (0 : Int) < _; decide), _, _, rfl, rfl, ⟨by decide, by decide⟩, _, rfl, _, _, rfl, rfl, hm0, ?_⟩
        refine q _ _ (Int.emod_nonneg _ (by omega)) (Int.emod_lt_of_pos _ hm0) ⟨gs, ss, z, ct + 1, w5, ?_, ?_, a4, a5, hz0, hz1, by omega, by omega, a10⟩ (fun b o hb n => ?_)
        · rw [upd_upd]
          exact w2 _
        · rw [upd_upd]
          exact w3 _
        · rw [upd_upd, upd_ne n.1]
          exact hb
end

def wordsL : List Str := ["yes", "no", "not", "and", "or", "step", "some", "all", "next", "once", "ever", "until", "unless"]
def lettersS : Str := "abcdefghijklmnopqrstuvwxyz"
structure Wd (K : PySem.W.Frag) (mg : Str → Option Value) where
  aW : Addr
  uL : Value
  gWORDS : mg "WORDS" = some (.ref aW)
  rWORDS : RelV (.ref aW) (.ref aW)
  sW : ∀ H, SqT K H aW (wordsL.map V.str)
  gLETTERS : mg "LETTERS" = some uL
  rLETTERS : RelV (.str lettersS) uL
/-- a text that is_name takes -/
structure GoodName (z : Str) : Prop where
  lo : 1 ≤ z.length
  hi : z.length ≤ 8
  nw : z ∉ wordsL
  al : ∀ c ∈ z.cps.toList, c ∈ lettersS.cps.toList
theorem flat_str (xs : List Str) : (xs.map V.str).all flatV = true := by
  rw [List.all_map, List.all_eq_true]
  exact fun _ _ => rfl
theorem flat_int (xs : List Int) : (xs.map V.int).all flatV = true := by
  rw [List.all_map, List.all_eq_true]
  exact fun _ _ => rfl
theorem inV_str (z : Str) (xs : List Str) : inV (.str z) (xs.map V.str) = decide (z ∈ xs) := by
  unfold inV
  rw [List.any_map]
  by_cases h : z ∈ xs
  · rw [decide_eq_true h, List.any_eq_true]
    exact ⟨z, h, by simp [Function.comp, eqV]⟩
  · rw [decide_eq_false h, List.any_eq_false]
    intro y hy q
    exact h (by simp [Function.comp, eqV] at q; rw [← q]; exact hy)
theorem inV_int (z : Int) (xs : List Int) : inV (.int z) (xs.map V.int) = decide (z ∈ xs) := by
  unfold inV
  rw [List.any_map]
  by_cases h : z ∈ xs
  · rw [decide_eq_true h, List.any_eq_true]
    exact ⟨z, h, by simp [Function.comp, eqV]⟩
  · rw [decide_eq_false h, List.any_eq_false]
    intro y hy q
    exact h (by simp [Function.comp, eqV] at q; rw [← q]; exact hy)

/-! ### rising rows -/
/-- a rising row of numbers below many -/
def RiseI (many : Int) (ns : List Int) : Prop := ns.Pairwise (· < ·) ∧ ∀ n ∈ ns, 0 ≤ n ∧ n < many
theorem rise_len {many : Int} {ns : List Int} (h : RiseI many ns) (hm : 0 ≤ many) : (ns.length : Int) ≤ many := by
  have key : ∀ (ns : List Int) (lo : Int), ns.Pairwise (· < ·) → (∀ n ∈ ns, lo ≤ n ∧ n < many) → lo ≤ many → (ns.length : Int) ≤ many - lo := by
    intro ns
    induction ns with
    | nil =>
      intro lo _ _ h
      show (0 : Int) ≤ _
      omega
    | cons x r ih =>
      intro lo hp hb hl
      obtain ⟨p1, p2⟩ := List.pairwise_cons.mp hp
      have b1 := hb x List.mem_cons_self
      have := ih (x + 1) p2 (fun n hn => ⟨by have := p1 n hn; omega, (hb n (List.mem_cons_of_mem _ hn)).2⟩) (by omega)
      rw [List.length_cons]
      omega
  have := key ns 0 h.1 h.2 hm
  omega
/-- a rising row of names -/
def RiseS (zs : List Str) : Prop := zs.Pairwise (fun x y => x.cps.toList < y.cps.toList) ∧ ∀ z ∈ zs, GoodName z

/-! ### fairtrees.machines, on what it takes -/
structure MachAt (K : PySem.W.Frag) (H : Hp) (m : Addr) (steps : List (List Int)) (marks : List (List Str)) : Prop where
  ex : ∃ (s k : Addr) (sa ka : List Addr), SqT K H m [.ref s, .ref k] ∧ SqT K H s (sa.map V.ref) ∧ SqT K H k (ka.map V.ref) ∧
    Each (fun a ns => SqT K H a (ns.map V.int)) sa steps ∧ Each (fun a zs => SqT K H a (zs.map V.str)) ka marks
structure GoodMach (steps : List (List Int)) (marks : List (List Str)) : Prop where
  len : steps.length = marks.length
  lo : 1 ≤ steps.length
  hi : steps.length ≤ 40
  st : ∀ r ∈ steps, RiseI steps.length r
  mr : ∀ r ∈ marks, RiseS r ∧ r.length ≤ 8
theorem MachAt.imm {K : PySem.W.Frag} {H H' : Hp} {m : Addr} {steps : List (List Int)} {marks : List (List Str)} (M : MachAt K H m steps marks) (e : Imm H H') : MachAt K H' m steps marks := by
  obtain ⟨s, k, sa, ka, h1, h2, h3, h4, h5⟩ := M.ex
  exact ⟨s, k, sa, ka, e.sq h1, e.sq h2, e.sq h3, h4.imp fun _ _ h => e.sq h, h5.imp fun _ _ h => e.sq h⟩
structure WishAt (K : PySem.W.Frag) (H : Hp) (t : Addr) (ws : List (Str × Str)) : Prop where
  ex : ∃ wa : List Addr, SqT K H t (wa.map V.ref) ∧ Each (fun a (x : Str × Str) => SqT K H a [.str x.1, .str x.2]) wa ws
theorem WishAt.imm {K : PySem.W.Frag} {H H' : Hp} {t : Addr} {ws : List (Str × Str)} (M : WishAt K H t ws) (e : Imm H H') : WishAt K H' t ws := by
  obtain ⟨wa, h1, h2⟩ := M.ex
  exact ⟨wa, e.sq h1, h2.imp fun _ _ h => e.sq h⟩
theorem ref_get {as : List Addr} {i : Nat} {v : V} (h : (as.map V.ref)[i]? = some v) : ∃ a, as[i]? = some a ∧ v = .ref a := map_get h
theorem dec_str (x y : Str) : decide (V.str x = V.str y) = decide (x = y) := by
  by_cases h : x = y
  · rw [decide_eq_true h, decide_eq_true (by rw [h])]
  · rw [decide_eq_false h, decide_eq_false fun q => h (V.str.inj q)]
theorem dec_int (x y : Int) : decide (V.int x = V.int y) = decide (x = y) := by
  by_cases h : x = y
  · rw [decide_eq_true h, decide_eq_true (by rw [h])]
  · rw [decide_eq_false h, decide_eq_false fun q => h (V.int.inj q)]
/-- the standings that bear a name -/
def bearersOf (marks : List (List Str)) (z : Str) (n : Nat) : List Int := ((List.range n).filter fun j => decide (z = Str.ofString "") || decide (z ∈ marks.getD j [])).map Int.ofNat
theorem bearersOf_yes {marks : List (List Str)} {z : Str} {n : Nat} (h : (decide (z = Str.ofString "") || decide (z ∈ marks.getD n [])) = true) : bearersOf marks z (n + 1) = bearersOf marks z n ++ [(n : Int)] := by
  unfold bearersOf
  rw [List.range_succ, List.filter_append, List.map_append, List.filter_cons, if_pos h] <;> rfl
theorem bearersOf_no {marks : List (List Str)} {z : Str} {n : Nat} (h : (decide (z = Str.ofString "") || decide (z ∈ marks.getD n [])) = false) : bearersOf marks z (n + 1) = bearersOf marks z n := by
  unfold bearersOf
  rw [List.range_succ, List.filter_append, List.map_append, List.filter_cons, if_neg (by rw [h]; decide)]
  show _ ++ [] = _
  rw [List.append_nil]

/-! ### _law_name, _law_names -/
theorem letters_eq : lettersS.cps.toList = List.range' 97 26 := by decide +kernel
theorem letters_at {j : Nat} (hj : j < 26) : lettersS.cps.toList[j]? = some (97 + j) := by
  rw [letters_eq, List.getElem?_range' hj]
  simp
theorem letters_len : lettersS.length ≤ 100000 := by
  show lettersS.cps.size ≤ 100000
  rw [← Array.length_toList, letters_eq]
  simp
theorem letters_mem {j : Nat} (hj : j < 26) : 97 + j ∈ lettersS.cps.toList := List.mem_of_getElem? (letters_at hj)
def Alpha (z : Str) : Prop := ∀ c ∈ z.cps.toList, c ∈ lettersS.cps.toList
theorem app_list (x y : Str) : (x ++ y).cps.toList = x.cps.toList ++ y.cps.toList := by
  show (x.cps ++ y.cps).toList = _
  rw [Array.toList_append]
theorem app_len (x y : Str) : (x ++ y).length = x.length + y.length := by
  show (x ++ y).cps.size = x.cps.size + y.cps.size
  rw [← Array.length_toList, ← Array.length_toList, ← Array.length_toList, app_list, List.length_append]
theorem alpha_app {x : Str} {j : Nat} (h : Alpha x) (hj : j < 26) : Alpha (x ++ ⟨#[97 + j]⟩) := fun c hc => by
  rw [app_list] at hc
  rcases List.mem_append.mp hc with hc | hc
  · exact h c hc
  · have e : c = 97 + j := by simpa using hc
    rw [e]
    exact letters_mem hj
theorem pigeon {α : Type} [BEq α] [LawfulBEq α] : ∀ (l m : List α), l.Nodup → (∀ x ∈ l, x ∈ m) → l.length ≤ m.length
  | [], _, _, _ => Nat.zero_le _
  | x :: r, m, nd, h => by
    obtain ⟨n1, n2⟩ := List.nodup_cons.mp nd
    have hx := h x List.mem_cons_self
    have := pigeon r (m.erase x) n2 fun y hy => (List.mem_erase_of_ne (fun q => n1 (by rw [← q]; exact hy))).mpr (h y (List.mem_cons_of_mem _ hy))
    rw [List.length_erase_of_mem hx] at this
    have : 0 < m.length := List.length_pos_of_mem hx
    rw [List.length_cons]
    omega
/-- what the loop tries at its k-th turn -/
def cand (nm : Str) (last k : Nat) : Str := nm ++ ⟨#[97 + (last + k) % 26]⟩
theorem cand_inj {nm : Str} {last j k : Nat} (hj : j < 26) (hk : k < 26) (h : cand nm last j = cand nm last k) : j = k := by
  have e : (cand nm last j).cps.toList = (cand nm last k).cps.toList := by rw [h]
  unfold cand at e
  rw [app_list, app_list] at e
  have e2 := List.append_cancel_left e
  simp at e2
  omega
theorem cand_some {nm : Str} {last : Nat} {words taken : List Str} (hw : words.length + taken.length < 26) (h : ∀ j, j < 26 → cand nm last j ∈ words ∨ cand nm last j ∈ taken) : False := by
  have nd : ((List.range 26).map (cand nm last)).Nodup := by
    refine List.pairwise_map.mpr ((List.pairwise_lt_range (n := 26)).imp_of_mem fun ha hb hab e => ?_)
    have := cand_inj (List.mem_range.mp ha) (List.mem_range.mp hb) e
    omega
  have := pigeon _ (words ++ taken) nd fun x hx => by
    obtain ⟨j, hj, rfl⟩ := List.mem_map.mp hx
    exact List.mem_append.mpr (h j (List.mem_range.mp hj))
  rw [List.length_map, List.length_range, List.length_append] at this
  omega
abbrev s_law_name : Stmt := topS 6
theorem sc_law_name : FnScope ["_law_pool_here", "_law_start", "_law_taken", "_law_letters", "_law_name_here", "_law_k", "_law_last", "_law_words", "_law_found"] ["_law_pool_here", "_law_start", "_law_taken"] (defScope s_law_name) := ⟨rfl, rfl, rfl, by decide +kernel, rfl, by decide +kernel, by decide +kernel⟩
abbrev s_law_names : Stmt := topS 7
theorem sc_law_names : FnScope ["_law_pool_here", "_law_many", "_law_letters", "_law_start", "_law_k", "_law_names_here"] ["_law_pool_here", "_law_many"] (defScope s_law_names) := ⟨rfl, rfl, rfl, by decide +kernel, rfl, by decide +kernel, by decide +kernel⟩
section
variable {P : Program} {w : World} {K : PySem.W.Frag} {mg : Str → Option Value} {base : Heap}
def spLName : Sp := fun vs H Q _ => ∃ (a : PA) (c : Nat) (start : Str) (t : Addr) (taken : List Str), vs = [.ref a.p, .str start, .ref t] ∧ Pool H a c ∧ c < 900000 ∧ H t = some (.lst (taken.map V.str)) ∧ Off a t ∧ Alpha start ∧ start.length ≤ 4 ∧ taken.length ≤ 12 ∧
  ∀ H' z, GoodName z → z ∉ taken → Pool H' a (c + 5) → Kp a H H' → Q (.str z) H'
theorem ok_lname {f : Addr} {fd : FuncData} (F : Fun K "_law_name" "_law_name" s_law_name f fd) (T : Bi mg) (c_law_draw : Cal P w K mg base 1 "_law_draw" ["_law_pool_here", "_law_many"] spDraw) : FnOk P w K mg base CX0 2 f fd ["_law_pool_here", "_law_start", "_law_taken"] spLName := by
  refine F.ok sc_law_name (fun vs H Q E h => ?_) (fun cdv A outer s H vs Q E hr h => ?_)
  · obtain ⟨a, c, start, t, taken, rfl, _⟩ := h
    rfl
  · obtain ⟨a, c, start, t, taken, rfl, PP, hc, ht, ot, al, sl, tl, q⟩ := h
    refine ⟨_, (pss_cons (ps_set (i := 3) sc_law_name.nd rfl (.inl rfl) pe_str)
      (pss_cons (ps_set (i := 4) sc_law_name.nd rfl (.inl rfl) (pv 1))
      (pss_cons (ps_for PassesOwn.never rfl (pi_range1 (by rfl) T.range (pa_cons (pe_call c_law_draw.G hr (by rfl) c_law_draw.g c_law_draw.kp c_law_draw.b .nil pass0 (pa_cons (pv 0) (pa_cons pe_int pa_nil))) pa_nil)) (pg_name (i := 5) sc_law_name.nd rfl (.inl rfl))
        (pss_one (ps_set (i := 4) sc_law_name.nd rfl (.inl rfl) (pe_op op_add_str (pv 4) (pe_ix ix_str (pv 3) (pe_call c_law_draw.G hr (by rfl) c_law_draw.g c_law_draw.kp c_law_draw.b .nil pass0 (pa_cons (pv 0) (pa_cons pe_int pa_nil))) (fun _ _ => rfl))))))
      (pss_cons (ps_set (i := 6) sc_law_name.nd rfl (.inl rfl) (pe_call c_law_draw.G hr (by rfl) c_law_draw.g c_law_draw.kp c_law_draw.b .nil pass0 (pa_cons (pv 0) (pa_cons pe_int pa_nil))))
      (pss_cons (ps_set (i := 7) sc_law_name.nd rfl (.inl rfl) (pe_lst (pa_cons pe_str (pa_cons pe_str (pa_cons pe_str (pa_cons pe_str (pa_cons pe_str (pa_cons pe_str (pa_cons pe_str (pa_cons pe_str (pa_cons pe_str (pa_cons pe_str (pa_cons pe_str (pa_cons pe_str (pa_cons pe_str pa_nil)))))))))))))))
      (pss_cons (ps_for PassesOwn.never rfl (pi_range1 (by rfl) T.range (pa_cons pe_int pa_nil)) (pg_name (i := 5) sc_law_name.nd rfl (.inl rfl))
        (pss_cons (ps_set (i := 8) sc_law_name.nd rfl (.inl rfl) (pe_op op_add_str (pv 4) (pe_ix ix_str (pv 3) (pe_op op_mod (pe_op op_add (pv 6) (pv 5)) pe_int) (fun _ _ => rfl))))
        (pss_one (ps_if (PW.pt (pw_and (pt_cmpR op_notIn_seq (pv 8) (pv 7) (by rfl)) (pw_and1 (pt_cmpR op_notIn_seq (pv 8) (pv 2) (by rfl)))))
          (pss_one (ps_ret (pv 8)))
          pss_nil))))
      (pss_one (ps_ret (pe_op op_add_str (pv 4) pe_str))))))))), ?_⟩
    -- for k in range(draw(pool, 4))
    refine ⟨_, rfl, _, rfl, a, c, 4, rfl, PP, by omega, by decide, by decide, fun H1 r r0 r1 P1 k1 => ⟨r, rfl, by omega, by omega, for_range (lo := 0) (n := r.toNat) (fun i σ H' => ∃ nm y,
      σ = [some (.ref a.p), some (.str start), some (.ref t), some (.str lettersS), some (.str nm), y, none, none, none] ∧ Alpha nm ∧ nm.length = start.length + i ∧ Pool H' a (c + 1 + i) ∧ Kp a H H')
      ⟨start, none, rfl, al, rfl, P1, k1⟩ ?_ ?_⟩⟩
    · rintro i σ H2 hi ⟨nm, y, rfl, an, ln, P2, k2⟩
      refine ⟨_, rfl, _, rfl, _, rfl, a, _, 26, rfl, P2, by omega, by decide, by decide, fun H3 r' r0' r1' P3 k3 => ?_⟩
      obtain ⟨j, rfl⟩ : ∃ j : Nat, r' = (j : Int) := ⟨r'.toNat, by omega⟩
      have hj : j < 26 := by omega
      refine ⟨lettersS, _, 97 + j, rfl, rfl, szOk letters_len, atI_nat (letters_at hj), nm, _, rfl, rfl, ?_, ?_⟩
      · show nm.length + 1 ≤ sizeLine
        exact szOk (by omega)
      · refine ⟨nm ++ ⟨#[97 + j]⟩, _, rfl, alpha_app an hj, ?_, ?_, k2.trans k3⟩
        · rw [app_len, ln]
          rfl
        · exact P3
    · rintro σ H2 ⟨nm, y, rfl, an, ln, P2, k2⟩
      -- last = draw(pool, 26); words
      refine ⟨_, rfl, a, _, 26, rfl, P2, by omega, by decide, by decide, fun H3 r' r0' r1' P3 k3 => ?_⟩
      obtain ⟨last, rfl⟩ : ∃ j : Nat, r' = (j : Int) := ⟨r'.toNat, by omega⟩
      refine ⟨by show 13 ≤ sizeLine; decide, fun l hl => ?_⟩
      have hl2 : upd H3 l (.lst (wordsL.map V.str)) l = some (.lst (wordsL.map V.str)) := upd_same
      have ht3 : H3 t = some (.lst (taken.map V.str)) := (k2.trans k3) _ _ ht ot
      have ht4 : ∀ o, upd H3 l o t = some (.lst (taken.map V.str)) := fun o => by
        rw [upd_ne (ne_of_none ht3 hl)]
        exact ht3
      refine ⟨26, rfl, by decide, by decide, for_range (lo := 0) (n := 26) (fun i σ H' => ∃ y z,
        σ = [some (.ref a.p), some (.str start), some (.ref t), some (.str lettersS), some (.str nm), y, some (.int last), some (.ref l), z] ∧ H' = upd H3 l (.lst (wordsL.map V.str)) ∧ ∀ j, j < i → cand nm last j ∈ wordsL ∨ cand nm last j ∈ taken)
        ⟨_, _, rfl, rfl, fun j hj => absurd hj (Nat.not_lt_zero _)⟩ ?_ ?_⟩
      · rintro i σ H' hi ⟨y', z, rfl, rfl, all⟩
        have hm : (last + i) % 26 < 26 := Nat.mod_lt _ (by decide)
        have em : ((last : Int) + (0 + (i : Int))) % 26 = (((last + i) % 26 : Nat) : Int) := by omega
        refine ⟨_, rfl, _, rfl, _, rfl, _, rfl, _, _, rfl, rfl, _, _, rfl, rfl, (by show (0 : Int) < _; decide), lettersS, _, 97 + (last + i) % 26, rfl, rfl, szOk letters_len, (by
          show atI _ (((last : Int) + (0 + (i : Int))) % 26) = _
          rw [em]
          exact atI_nat (letters_at hm)), nm, _, rfl, rfl, ?_, ?_⟩
        · show nm.length + 1 ≤ sizeLine
          exact szOk (by omega)
        · refine ⟨_, rfl, _, rfl, l, _, rfl, .inl (SqL.of hl2), rfl, flat_str _, _, rfl, ?_⟩
          rw [inV_str]
          refine ite2 (fun e => ?_) (fun e => ?_)
          · refine ⟨_, rfl, _, rfl, t, _, rfl, .inl (SqL.of (ht4 _)), rfl, flat_str _, _, rfl, ?_⟩
            rw [inV_str]
            refine ite2 (fun e2 => ?_) (fun e2 => ?_)
            · have n1 : cand nm last i ∉ wordsL := notdec e
              have n2 : cand nm last i ∉ taken := notdec e2
              have lc : (cand nm last i).length = nm.length + 1 := by
                unfold cand
                rw [app_len]
                rfl
              refine ⟨_, rfl, q _ (cand nm last i) ⟨by omega, by omega, n1, alpha_app an hm⟩ n2 ((P3.upd (P3.off hl)).mono (by omega)) ((k2.trans k3).mut ((k2.trans k3).free hl (P3.off hl)))⟩
            · refine ⟨_, _, rfl, rfl, fun j hj => ?_⟩
              by_cases h : j < i
              · exact all j h
              · have e3 : j = i := by omega
                rw [e3]
                exact .inr (dec_of e2)
          · refine iteF ⟨_, _, rfl, rfl, fun j hj => ?_⟩
            by_cases h : j < i
            · exact all j h
            · have e3 : j = i := by omega
              rw [e3]
              exact .inl (dec_of e)
      · rintro σ H' ⟨y', z, rfl, rfl, all⟩
        exact (cand_some (words := wordsL) (by show 13 + taken.length < 26; omega) all).elim
def spLNames : Sp := fun vs H Q _ => ∃ (a : PA) (c : Nat) (n : Nat), vs = [.ref a.p, .int n] ∧ Pool H a c ∧ c < 800000 ∧ n ≤ 12 ∧
  ∀ (H' : Hp) (l : Addr) (zs : List Str), Pool H' a (c + 5 + n * 5) → Kp a H H' → H' l = some (.lst (zs.map V.str)) → Off a l → zs.Nodup → (∀ z ∈ zs, GoodName z) → zs.length = n → Q (.ref l) H'
theorem ok_lnames {f : Addr} {fd : FuncData} (F : Fun K "_law_names" "_law_names" s_law_names f fd) (T : Bi mg) (c_law_draw : Cal P w K mg base 1 "_law_draw" ["_law_pool_here", "_law_many"] spDraw) (c_law_name : Cal P w K mg base 2 "_law_name" ["_law_pool_here", "_law_start", "_law_taken"] spLName) :
    FnOk P w K mg base CX0 3 f fd ["_law_pool_here", "_law_many"] spLNames := by
  refine F.ok sc_law_names (fun vs H Q E h => ?_) (fun cdv A outer s H vs Q E hr h => ?_)
  · obtain ⟨a, c, n, rfl, _⟩ := h
    rfl
  · obtain ⟨a, c, n, rfl, PP, hc, hn, q⟩ := h
    refine ⟨_, (pss_cons (ps_set (i := 2) sc_law_names.nd rfl (.inl rfl) pe_str)
      (pss_cons (ps_set (i := 3) sc_law_names.nd rfl (.inl rfl) pe_str)
      (pss_cons (ps_for PassesOwn.never rfl (pi_range1 (by rfl) T.range (pa_cons (pe_ix ix_list (pe_lst (pa_cons pe_int (pa_cons pe_int (pa_cons pe_int (pa_cons pe_int pa_nil))))) (pe_call c_law_draw.G (hr.mono (by decide)) (by rfl) c_law_draw.g c_law_draw.kp c_law_draw.b .nil pass0 (pa_cons (pv 0) (pa_cons pe_int pa_nil))) (fun _ _ => rfl)) pa_nil)) (pg_name (i := 4) sc_law_names.nd rfl (.inl rfl))
        (pss_one (ps_set (i := 3) sc_law_names.nd rfl (.inl rfl) (pe_op op_add_str (pv 3) (pe_ix ix_str (pv 2) (pe_call c_law_draw.G (hr.mono (by decide)) (by rfl) c_law_draw.g c_law_draw.kp c_law_draw.b .nil pass0 (pa_cons (pv 0) (pa_cons pe_int pa_nil))) (fun _ _ => rfl))))))
      (pss_cons (ps_set (i := 5) sc_law_names.nd rfl (.inl rfl) (pe_lst pa_nil))
      (pss_cons (ps_for PassesOwn.never rfl (pi_range1 (by rfl) T.range (pa_cons (pv 1) pa_nil)) (pg_name (i := 4) sc_law_names.nd rfl (.inl rfl))
        (pss_one (ps_expr (pe_bm PySem.F.plainAttrs_list PySem.F.slot_list_append PySem.F.type_list_append mt_append (pv 5) (pa_cons (pe_call c_law_name.G hr (by rfl) c_law_name.g c_law_name.kp c_law_name.b .nil pass0 (pa_cons (pv 0) (pa_cons (pv 3) (pa_cons (pv 5) pa_nil)))) pa_nil)))))
      (pss_one (ps_ret (pv 5)))))))), ?_⟩
    refine ⟨by show 4 ≤ sizeLine; decide, fun d hd => ⟨_, rfl, a, c, 4, rfl, PP.upd (PP.off hd), by omega, by decide, by decide, fun H1 r r0 r1 P1 k1 => ?_⟩⟩
    have k1' : Kp a H H1 := (skp (same_upd hd)).trans k1
    have hd1 : H1 d = some (.lst [.int 0, .int 0, .int 1, .int 4]) := k1 _ _ upd_same (PP.off hd)
    obtain ⟨v, v0, v1, hv⟩ : ∃ v : Int, 0 ≤ v ∧ v ≤ 4 ∧ atI [V.int 0, .int 0, .int 1, .int 4] r = some (.int v) := by
      have : r = 0 ∨ r = 1 ∨ r = 2 ∨ r = 3 := by omega
      rcases this with rfl | rfl | rfl | rfl
      · exact ⟨0, by decide, by decide, rfl⟩
      · exact ⟨0, by decide, by decide, rfl⟩
      · exact ⟨1, by decide, by decide, rfl⟩
      · exact ⟨4, by decide, by decide, rfl⟩
    refine ⟨d, _, r, .int v, rfl, rfl, SqL.of hd1, hv, v, rfl, by omega, by omega, for_range (lo := 0) (n := v.toNat) (fun i σ H' => ∃ nm y,
      σ = [some (.ref a.p), some (.int n), some (.str lettersS), some (.str nm), y, none] ∧ Alpha nm ∧ nm.length = i ∧ Pool H' a (c + 1 + i) ∧ Kp a H H')
      ⟨Str.ofString "", none, rfl, (fun c hc => absurd hc (by rw [show (Str.ofString "").cps.toList = [] by decide +kernel]; exact List.not_mem_nil)), (by decide +kernel), P1, k1'⟩ ?_ ?_⟩
    · rintro i σ H2 hi ⟨nm, y, rfl, an, ln, P2, k2⟩
      refine ⟨_, rfl, _, rfl, _, rfl, a, _, 26, rfl, P2, by omega, by decide, by decide, fun H3 r' r0' r1' P3 k3 => ?_⟩
      obtain ⟨j, rfl⟩ : ∃ j : Nat, r' = (j : Int) := ⟨r'.toNat, by omega⟩
      have hj : j < 26 := by omega
      refine ⟨lettersS, _, 97 + j, rfl, rfl, szOk letters_len, atI_nat (letters_at hj), nm, _, rfl, rfl, ?_, ?_⟩
      · show nm.length + 1 ≤ sizeLine
        exact szOk (by omega)
      · refine ⟨nm ++ ⟨#[97 + j]⟩, _, rfl, alpha_app an hj, ?_, P3, k2.trans k3⟩
        rw [app_len, ln]
        rfl
    · rintro σ H2 ⟨nm, y, rfl, an, ln, P2, k2⟩
      refine ⟨Nat.zero_le _, fun l hl => ?_⟩
      have ol := P2.off hl
      have hl0 := k2.free hl ol
      refine ⟨_, rfl, n, rfl, by omega, by omega, for_range (lo := 0) (n := (n : Int).toNat) (fun i σ H' => ∃ (zs : List Str) (y : Option V),
        σ = [some (.ref a.p), some (.int n), some (.str lettersS), some (.str nm), y, some (.ref l)] ∧ zs.length = i ∧ zs.Nodup ∧ (∀ z ∈ zs, GoodName z) ∧ H' l = some (.lst (zs.map V.str)) ∧ Pool H' a (c + 5 + i * 5) ∧ Kp a H H')
        ⟨[], _, rfl, rfl, List.nodup_nil, (fun z hz => absurd hz List.not_mem_nil), upd_same, ((P2.mono (by omega)).upd ol), k2.mut hl0⟩ ?_ ?_⟩
      · rintro i σ H3 hi ⟨zs, y', rfl, lz, nz, gz, hz, P3, k3⟩
        refine ⟨_, rfl, .inl ⟨rfl, _, SqL.of hz⟩, _, rfl, _, rfl, _, rfl, a, _, nm, l, zs, rfl, P3, by omega, hz, ol, an, by omega, by omega, fun H4 z g4 n4 P4 k4 => ?_⟩
        have hz4 := k4 _ _ hz ol
        refine ⟨l, _, _, rfl, rfl, hz4, szLt (by rw [List.length_map]; omega), zs ++ [z], _, rfl, ?_, ?_, ?_, ?_, ?_, ?_⟩
        · rw [List.length_append, lz]
          rfl
        · rw [List.nodup_append]
          refine ⟨nz, by simp, fun x hx y hy e => ?_⟩
          have : y = z := by simpa using hy
          rw [this] at e
          exact n4 (by rw [← e]; exact hx)
        · intro x hx
          rcases List.mem_append.mp hx with hx | hx
          · exact gz x hx
          · have : x = z := by simpa using hx
            rw [this]
            exact g4
        · rw [upd_same, List.map_append]
          rfl
        · rw [show c + 5 + (i + 1) * 5 = c + 5 + i * 5 + 5 by omega]
          exact P4.upd ol
        · exact (k3.trans k4).mut hl0
      · rintro σ H3 ⟨zs, y', rfl, lz, nz, gz, hz, P3, k3⟩
        rw [Int.toNat_natCast] at lz P3
        exact ⟨_, rfl, q _ l zs P3 k3 hz ol nz gz lz⟩
end

/-! ### _law_great_machine -/
theorem nlt_trans {a b c : List Nat} (h1 : ¬ b < a) (h2 : ¬ c < b) : ¬ c < a := by
  rw [List.not_lt] at *
  exact List.le_trans h1 h2
theorem lt_of {a b : List Nat} (h : ¬ b < a) (n : a ≠ b) : a < b := by
  rw [List.not_lt] at h
  rcases List.le_iff_lt_or_eq.mp h with h | h
  · exact h
  · exact absurd h n
theorem rising_pw : ∀ (l : List Str) (p : Str), risingS p l = true → (p :: l).Pairwise (fun x y => ¬ y.cps.toList < x.cps.toList)
  | [], p, _ => List.pairwise_singleton _ _
  | x :: r, p, h => by
    have h' : (!Spec.ltCps x.cps.toList p.cps.toList && risingS x r) = true := h
    rw [Bool.and_eq_true, ltCps_eq] at h'
    have ih := rising_pw r x h'.2
    refine List.pairwise_cons.mpr ⟨fun y hy => ?_, ih⟩
    rcases List.mem_cons.mp hy with rfl | hy
    · exact notdec h'.1
    · exact nlt_trans (notdec h'.1) ((List.pairwise_cons.mp ih).1 y hy)
theorem sorted_rise {ys : List Str} (h : sortedS ys = true) (nd : ys.Nodup) (g : ∀ z ∈ ys, GoodName z) : RiseS ys := by
  refine ⟨?_, g⟩
  have pw : ys.Pairwise (fun x y => ¬ y.cps.toList < x.cps.toList) := by
    cases ys with
    | nil => exact List.Pairwise.nil
    | cons x r => exact rising_pw r x h
  exact (pw.and nd).imp fun {x y} h => lt_of h.1 fun e => h.2 (Str.ext' (Array.toList_inj.mp e))
abbrev s_law_great_machine : Stmt := topS 8
theorem sc_law_great_machine : FnScope ["_law_pool_here", "_law_names_here", "_law_many", "_law_dense", "_law_steps", "_law_marks", "_law_k", "_law_bits", "_law_worn", "_law_to", "_law_j"] ["_law_pool_here", "_law_names_here"] (defScope s_law_great_machine) := ⟨rfl, rfl, rfl, by decide +kernel, rfl, by decide +kernel, by decide +kernel⟩
section
variable {P : Program} {w : World} {K : PySem.W.Frag} {mg : Str → Option Value} {base : Heap}
def spGreat (K : PySem.W.Frag) : Sp := fun vs H Q _ => ∃ (a : PA) (c : Nat) (l : Addr) (zs : List Str), vs = [.ref a.p, .ref l] ∧ Pool H a c ∧ c < 700000 ∧ H l = some (.lst (zs.map V.str)) ∧ Off a l ∧ zs.Nodup ∧ (∀ z ∈ zs, GoodName z) ∧ zs.length ≤ 8 ∧
  ∀ (H' : Hp) (m : Addr) (steps : List (List Int)) (marks : List (List Str)), Pool H' a (c + 203) → Kp a H H' → MachAt K H' m steps marks → GoodMach steps marks → Q (.ref m) H'
theorem ok_great {f : Addr} {fd : FuncData} (F : Fun K "_law_great_machine" "_law_great_machine" s_law_great_machine f fd) (T : Bi mg) (c_law_draw : Cal P w K mg base 1 "_law_draw" ["_law_pool_here", "_law_many"] spDraw) : FnOk P w K mg base CX0 2 f fd ["_law_pool_here", "_law_names_here"] (spGreat K) := by
  refine F.ok sc_law_great_machine (fun vs H Q E h => ?_) (fun cdv A outer s H vs Q E hr h => ?_)
  · obtain ⟨a, c, l, zs, rfl, _⟩ := h
    rfl
  · obtain ⟨a, c, l, zs, rfl, PP, hc, hl, ol, nz, gz, lz, q⟩ := h
    refine ⟨_, (pss_cons (ps_set (i := 2) sc_law_great_machine.nd rfl (.inl rfl) (pe_op op_add pe_int (pe_call c_law_draw.G hr (by rfl) c_law_draw.g c_law_draw.kp c_law_draw.b .nil pass0 (pa_cons (pv 0) (pa_cons pe_int pa_nil)))))
      (Evl.pss_cut (ps_if (pt_cmpR op_eq (pe_call c_law_draw.G hr (by rfl) c_law_draw.g c_law_draw.kp c_law_draw.b .nil pass0 (pa_cons (pv 0) (pa_cons pe_int pa_nil))) pe_int (nomark _))
        (pss_one (ps_set (i := 2) sc_law_great_machine.nd rfl (.inl rfl) pe_int))
        pss_nil)
      (pss_cons (ps_set (i := 3) sc_law_great_machine.nd rfl (.inl rfl) (pe_call c_law_draw.G hr (by rfl) c_law_draw.g c_law_draw.kp c_law_draw.b .nil pass0 (pa_cons (pv 0) (pa_cons pe_int pa_nil))))
      (pss_cons (ps_set (i := 4) sc_law_great_machine.nd rfl (.inl rfl) (pe_lst pa_nil))
      (pss_cons (ps_set (i := 5) sc_law_great_machine.nd rfl (.inl rfl) (pe_lst pa_nil))
      (pss_cons (ps_for PassesOwn.never rfl (pi_range1 (by rfl) T.range (pa_cons (pv 2) pa_nil)) (pg_name (i := 6) sc_law_great_machine.nd rfl (.inl rfl))
        (pss_cons (ps_set (i := 7) sc_law_great_machine.nd rfl (.inr rfl) (pe_lst (pa_cons (pe_call c_law_draw.G hr (by rfl) c_law_draw.g c_law_draw.kp c_law_draw.b .nil pass0 (pa_cons (pv 0) (pa_cons pe_int pa_nil))) (pa_cons (pe_call c_law_draw.G hr (by rfl) c_law_draw.g c_law_draw.kp c_law_draw.b .nil pass0 (pa_cons (pv 0) (pa_cons pe_int pa_nil))) pa_nil))))
        (Evl.pss_cut (ps_if (pt_cmpR op_gt (pv 3) pe_int (nomark _))
          (pss_one (ps_set (i := 7) sc_law_great_machine.nd rfl (.inr rfl) (pe_lst (pa_cons (pe_op op_and (pe_ix ix_list (pv 7) pe_int (fun _ _ => rfl)) (pe_call c_law_draw.G hr (by rfl) c_law_draw.g c_law_draw.kp c_law_draw.b .nil pass0 (pa_cons (pv 0) (pa_cons pe_int pa_nil)))) (pa_cons (pe_op op_and (pe_ix ix_list (pv 7) pe_int (fun _ _ => rfl)) (pe_call c_law_draw.G hr (by rfl) c_law_draw.g c_law_draw.kp c_law_draw.b .nil pass0 (pa_cons (pv 0) (pa_cons pe_int pa_nil)))) pa_nil)))))
          pss_nil)
        (pss_cons (ps_expr (pe_bm PySem.F.plainAttrs_list PySem.F.slot_list_append PySem.F.type_list_append mt_append (pv 4) (pa_cons (pe_callTy call_tuple_of (by rfl) T.tuple (by decide +kernel) (pa_cons (pe_lc (own := [("_law_to", 9)]) (g := gName 9) rfl sc_law_great_machine.nd (pi_range1 (by rfl) T.range (pa_cons (pv 2) pa_nil)) (blkOk_by (own := [("_law_to", 9)]) (N := ["_law_pool_here", "_law_names_here", "_law_many", "_law_dense", "_law_steps", "_law_marks", "_law_k", "_law_bits", "_law_worn", "_law_to", "_law_j"]) (sc := defScope s_law_great_machine) (by decide +kernel)) (fun _ _ _ _ _ => (pg_name (i := 9) sc_law_great_machine.nd rfl (.inl rfl))) (fun _ _ _ _ _ => (pts_one (pt_cmpR op_eq (pe_op op_and (pe_op op_shr (pe_ix (ixL K) (pv 7) (pe_op op_fdiv (pv 9) pe_int) (fun _ _ => rfl)) (pe_op op_mod (pv 9) pe_int)) pe_int) pe_int (nomark _)))) (fun _ _ _ _ _ => (pv 9))) pa_nil)) pa_nil)))
        (pss_cons (ps_set (i := 8) sc_law_great_machine.nd rfl (.inr rfl) (pe_call c_law_draw.G hr (by rfl) c_law_draw.g c_law_draw.kp c_law_draw.b .nil pass0 (pa_cons (pv 0) (pa_cons pe_int pa_nil))))
        (pss_one (ps_expr (pe_bm PySem.F.plainAttrs_list PySem.F.slot_list_append PySem.F.type_list_append mt_append (pv 5) (pa_cons (pe_callTy call_tuple_of (by rfl) T.tuple (by decide +kernel) (pa_cons (pe_callB cr_sortedS (by rfl) T.sorted (by decide +kernel) (pa_cons (pe_lc (own := [("_law_j", 10)]) (g := gName 10) rfl sc_law_great_machine.nd (pi_range1 (by rfl) T.range (pa_cons (pe_callB call_len_seq (by rfl) T.len PySem.boot_len (pa_cons (pv 1) pa_nil)) pa_nil)) (blkOk_by (own := [("_law_j", 10)]) (N := ["_law_pool_here", "_law_names_here", "_law_many", "_law_dense", "_law_steps", "_law_marks", "_law_k", "_law_bits", "_law_worn", "_law_to", "_law_j"]) (sc := defScope s_law_great_machine) (by decide +kernel)) (fun _ _ _ _ _ => (pg_name (i := 10) sc_law_great_machine.nd rfl (.inl rfl))) (fun _ _ _ _ _ => (pts_one (pt_cmpR op_eq (pe_op op_and (pe_op op_shr (pv 8) (pv 10)) pe_int) pe_int (nomark _)))) (fun _ _ _ _ _ => (pe_ix (ixL K) (pv 1) (pv 10) (fun _ _ => rfl)))) pa_nil)) pa_nil)) pa_nil)))))))))
      (pss_one (ps_ret (pe_tup (pa_cons (pe_callTy call_tuple_of (by rfl) T.tuple (by decide +kernel) (pa_cons (pv 4) pa_nil)) (pa_cons (pe_callTy call_tuple_of (by rfl) T.tuple (by decide +kernel) (pa_cons (pv 5) pa_nil)) pa_nil))))))))))), ?_⟩
    -- many
    refine ⟨_, rfl, a, c, 40, rfl, PP, by omega, by decide, by decide, fun H1 r r0 r1 P1 k1 => ⟨_, _, rfl, rfl, ?_⟩⟩
    refine ⟨fun σ H' => ∃ many : Nat, σ = [some (.ref a.p), some (.ref l), some (.int many), none, none, none, none, none, none, none, none] ∧ 1 ≤ many ∧ many ≤ 40 ∧ Pool H' a (c + 2) ∧ Kp a H H', ?_, ?_⟩
    · refine ⟨_, rfl, a, _, 4, rfl, P1, by omega, by decide, by decide, fun H2 r' _ _ P2 k2 => ⟨rfl, _, rfl, ite2 (fun _ => ?_) (fun _ => ?_)⟩⟩
      · exact ⟨40, rfl, by decide, by decide, P2, k1.trans k2⟩
      · refine ⟨(1 + r).toNat, ?_, by omega, by omega, P2, k1.trans k2⟩
        rw [show (((1 + r).toNat : Nat) : Int) = 1 + r by omega]
        rfl
    · rintro σ H2 ⟨many, rfl, m1, m2, P2, k2⟩
      -- dense, steps, marks
      refine ⟨_, rfl, a, _, 3, rfl, P2, by omega, by decide, by decide, fun H3 dense _ _ P3 k3 => ⟨Nat.zero_le _, fun ls hls => ⟨Nat.zero_le _, fun lm hlm => ?_⟩⟩⟩
      have os := P3.off hls
      have hls0 := (k2.trans k3).free hls os
      have P4 := P3.upd (o := .lst []) os
      have om := P4.off hlm
      have nsm : ls ≠ lm := fun e => by
        rw [← e, upd_same] at hlm
        cases hlm
      have hlm' : H3 lm = none := by
        rw [← hlm, upd_ne nsm.symm]
      have hlm0 := (k2.trans k3).free hlm' om
      refine ⟨_, rfl, many, rfl, by omega, by omega, for_range (lo := 0) (n := (many : Int).toNat) (fun i σ H' => ∃ (sa ka : List Addr) (steps : List (List Int)) (marks : List (List Str)) (y6 y7 y8 : Option V),
        σ = [some (.ref a.p), some (.ref l), some (.int many), some (.int dense), some (.ref ls), some (.ref lm), y6, y7, y8, none, none] ∧ Pool H' a (c + 3 + i * 5) ∧ Kp a H H' ∧ H' ls = some (.lst (sa.map V.ref)) ∧ H' lm = some (.lst (ka.map V.ref)) ∧
        Each (fun a ns => SqT K H' a (ns.map V.int)) sa steps ∧ Each (fun a zs => SqT K H' a (zs.map V.str)) ka marks ∧ steps.length = i ∧ marks.length = i ∧ (∀ r ∈ steps, RiseI many r) ∧ (∀ r ∈ marks, RiseS r ∧ r.length ≤ 8))
        ⟨[], [], [], [], none, none, none, rfl, P4.upd om, ((k2.trans k3).mut hls0).mut hlm0, ?_, upd_same, .nil, .nil, rfl, rfl, fun _ h => absurd h List.not_mem_nil, fun _ h => absurd h List.not_mem_nil⟩ ?_ ?_⟩
      · rw [upd_ne nsm, upd_same]
        rfl
      · rintro i σ H5 hi ⟨sa, ka, steps, marks, y6, y7, y8, rfl, P5, k5, g1, g2, g3, g4, g5, g6, g7, g8⟩
        have hi' : i < 40 := by omega
        have lsa : sa.length = i := by rw [g3.len, g5]
        have lka : ka.length = i := by rw [g4.len, g6]
        have hl5 := k5 _ _ hl ol
        -- bits
        refine ⟨_, rfl, a, _, 1048576, rfl, P5, by omega, by decide, by decide, fun H6 b0 _ _ P6 k6 => ⟨_, rfl, a, _, 1048576, rfl, P6, by omega, by decide, by decide, fun H7 b1 _ _ P7 k7 => ⟨by show 2 ≤ sizeLine; decide, fun lb hlb => ?_⟩⟩⟩
        have k57 : Kp a H5 H7 := k6.trans k7
        have ob := P7.off hlb
        refine ⟨fun σ H' => ∃ (lb : Addr) (b0 b1 : Int), σ = [some (.ref a.p), some (.ref l), some (.int many), some (.int dense), some (.ref ls), some (.ref lm), some (.int i), some (.ref lb), y8, none, none] ∧ Pool H' a (c + 3 + i * 5 + 4) ∧ Kp a H5 H' ∧ H' lb = some (.lst [.int b0, .int b1]) ∧ Off a lb, ?_, ?_⟩
        · have hlb1 : upd H7 lb (.lst [.int b0, .int b1]) lb = some (.lst [.int b0, .int b1]) := upd_same
          refine ⟨_, rfl, _, _, rfl, rfl, _, rfl, ite2 (fun _ => ?_) (fun _ => ?_)⟩
          · refine ⟨_, rfl, lb, _, 0, .int b0, rfl, rfl, SqL.of hlb1, at_of (j := 0) rfl rfl, _, rfl, a, _, 1048576, rfl, P7.upd ob, by omega, by decide, by decide, fun H8 r8 _ _ P8 k8 => ⟨_, _, rfl, rfl, ?_⟩⟩
            have hlb2 := k8 _ _ hlb1 ob
            refine ⟨_, rfl, lb, _, 1, .int b1, rfl, rfl, SqL.of hlb2, at_of (j := 1) rfl rfl, _, rfl, a, _, 1048576, rfl, P8, by omega, by decide, by decide, fun H9 r9 _ _ P9 k9 => ⟨_, _, rfl, rfl, ?_⟩⟩
            refine ⟨by show 2 ≤ sizeLine; decide, fun lb' hlb' => ⟨lb', _, _, ?_, P9.upd (P9.off hlb'), ?_, upd_same, P9.off hlb'⟩⟩
            · rw [Int.zero_add]
              rfl
            · have e1 : Kp a H5 (upd H7 lb (.lst [.int b0, .int b1])) := k57.mut (k57.free hlb ob)
              have e2 := (e1.trans k8).trans k9
              exact e2.mut (e2.free hlb' (P9.off hlb'))
          · refine ⟨lb, b0, b1, ?_, (P7.upd ob).mono (by omega), k57.mut (k57.free hlb ob), hlb1, ob⟩
            rw [Int.zero_add]
            rfl
        · rintro σ H8 ⟨lb, b0, b1, rfl, P8, k8, hb, ob⟩
          have g1' := k8 _ _ g1 os
          have g2' := k8 _ _ g2 om
          have e58 := P5.imm k8
          have g3' := g3.imp fun _ _ h => e58.sq h
          have g4' := g4.imp fun _ _ h => e58.sq h
          -- steps.append(..)
          refine ⟨_, rfl, .inl ⟨rfl, _, SqL.of g1'⟩, _, rfl, many, rfl, by omega, by omega, fun D hD => lc_rangeS (fun i acc => ∃ ns : List Int, acc = ns.map V.int ∧ ns.Pairwise (· < ·) ∧ ∀ n ∈ ns, 0 ≤ n ∧ n < i) hD (by omega) ⟨[], rfl, List.Pairwise.nil, fun _ h => absurd h List.not_mem_nil⟩ (fun _ => rfl) ?_ ?_⟩
          · intro j H9 acc hj s9 ⟨ns, hns, pw, bd⟩ _ N1 N2 k1 k2
            have hb9 := s9 _ _ hb
            obtain ⟨v, hv⟩ : ∃ v : Int, atI [V.int b0, .int b1] ((0 + (j : Int)) / 20) = some (.int v) := by
              have : (0 + (j : Int)) / 20 = 0 ∨ (0 + (j : Int)) / 20 = 1 := by omega
              rcases this with h | h
              · exact ⟨b0, by rw [h]; rfl⟩
              · exact ⟨b1, by rw [h]; rfl⟩
            refine ⟨_, rfl, _, rfl, _, _, rfl, rfl, ⟨by decide, by decide⟩, lb, _, _, .int v, rfl, rfl, SqL.of hb9, hv, _, rfl, _, _, rfl, rfl, (by show (0 : Int) < _; decide), _, _, rfl, rfl, (by show (0 : Int) ≤ _ % 20; omega), _, _, rfl, rfl, rfl, _, rfl, ite2 (fun _ => ?_) (fun _ => ?_)⟩
            · refine ⟨_, rfl, k1 _ _ (Same.refl _) ⟨ns ++ [(j : Int)], ?_, ?_, ?_⟩⟩
              · rw [hns, List.map_append, Int.zero_add]
                rfl
              · refine List.pairwise_append.mpr ⟨pw, List.pairwise_singleton _ _, fun x hx y hy => ?_⟩
                have : y = j := by simpa using hy
                have := (bd x hx).2
                omega
              · intro n hn
                rcases List.mem_append.mp hn with hn | hn
                · have := bd n hn
                  omega
                · have : n = j := by simpa using hn
                  omega
            · refine k2 _ (Same.refl _) ⟨ns, hns, pw, fun n hn => ?_⟩
              have := bd n hn
              omega
          · intro H9 acc s9 hD9 _ ⟨ns, hns, pw, bd⟩
            subst hns
            refine ⟨D, _, rfl, .inl ⟨SqL.of hD9, fun t ht => ?_⟩⟩
            have s9' : Same H8 (upd H9 t (.tup (ns.map V.int))) := s9.trans (same_upd ht)
            refine ⟨ls, _, _, rfl, rfl, s9' _ _ g1', szLt (by rw [List.length_map]; omega), ?_⟩
            have tls : t ≠ ls := (ne_of_none (s9 _ _ g1') ht).symm
            have tlm : lm ≠ t := ne_of_none (s9 _ _ g2') ht
            have P9 : Pool (upd (upd H9 t (.tup (ns.map V.int))) ls (.lst (sa.map V.ref ++ [.ref t]))) a (c + 3 + i * 5 + 4) := (P8.same s9').upd os
            have k9 : Kp a H (upd (upd H9 t (.tup (ns.map V.int))) ls (.lst (sa.map V.ref ++ [.ref t]))) := ((k5.trans k8).trans (skp s9')).mut hls0
            have h1 : upd (upd H9 t (.tup (ns.map V.int))) ls (.lst (sa.map V.ref ++ [.ref t])) ls = some (.lst ((sa ++ [t]).map V.ref)) := by
              rw [upd_same, List.map_append]
              rfl
            have h2 : upd (upd H9 t (.tup (ns.map V.int))) ls (.lst (sa.map V.ref ++ [.ref t])) lm = some (.lst (ka.map V.ref)) := by
              rw [upd_ne nsm.symm]
              exact s9' _ _ g2'
            have e9 : Imm H8 (upd (upd H9 t (.tup (ns.map V.int))) ls (.lst (sa.map V.ref ++ [.ref t]))) := (simm s9').trans (Imm.list (s9' _ _ g1'))
            have h3 := (g3'.imp fun _ _ h => e9.sq h).snoc (a := t) (x := ns) (SqT.of (by rw [upd_ne tls, upd_same]))
            have h4 := g4'.imp fun _ _ h => e9.sq h
            have hl9 := k9 _ _ hl ol
            generalize upd (upd H9 t (.tup (ns.map V.int))) ls (.lst (sa.map V.ref ++ [.ref t])) = H10 at P9 k9 h1 h2 h3 h4 hl9 ⊢
            have h5 : ∀ r ∈ steps ++ [ns], RiseI many r := fun r hr => by
              rcases List.mem_append.mp hr with hr | hr
              · exact g7 r hr
              · have : r = ns := by simpa using hr
                rw [this]
                exact ⟨pw, fun n hn => by have := bd n hn; omega⟩
            -- worn
            refine ⟨_, rfl, a, _, 256, rfl, P9, by omega, by decide, by decide, fun H11 worn _ _ P11 k11 => ?_⟩
            have h1' := k11 _ _ h1 os
            have h2' := k11 _ _ h2 om
            have hl11 := k11 _ _ hl9 ol
            have e11 := P9.imm k11
            have h3' := h3.imp fun _ _ h => e11.sq h
            have h4' := h4.imp fun _ _ h => e11.sq h
            -- marks.append(tuple(sorted(..)))
            refine ⟨_, rfl, .inl ⟨rfl, _, SqL.of h2'⟩, _, rfl, l, _, rfl, .inl (SqL.of hl11), _, rfl, by omega, by rw [List.length_map]; omega, fun D2 hD2 => lc_rangeS (fun j acc => ∃ ss : List Str, acc = ss.map V.str ∧ ss.Sublist (zs.take j)) hD2 (by rw [List.length_map]; omega) ⟨[], rfl, List.nil_sublist _⟩ (fun _ => rfl) ?_ ?_⟩
            · intro j H12 acc hj s12 ⟨ss, hss, sub⟩ _ N1 N2 k1 k2
              have hl12 := s12 _ _ hl11
              have hj' : j < zs.length := by
                rw [Int.toNat_natCast, List.length_map] at hj
                exact hj
              have gz' : (zs.map V.str)[j]? = some (.str zs[j]) := get_map (List.getElem?_eq_getElem hj')
              have etk : zs.take (j + 1) = zs.take j ++ [zs[j]] := by
                rw [List.take_add_one, List.getElem?_eq_getElem hj']
                rfl
              refine ⟨_, rfl, _, rfl, _, _, rfl, rfl, (by show (0 : Int) ≤ 0 + (j : Int); omega), _, _, rfl, rfl, rfl, _, rfl, ite2 (fun _ => ?_) (fun _ => ?_)⟩
              · refine ⟨_, rfl, _, rfl, l, _, _, _, rfl, rfl, SqL.of hl12, at_of (Int.zero_add _) gz', k1 _ _ (Same.refl _) ⟨ss ++ [zs[j]], ?_, ?_⟩⟩
                · rw [hss, List.map_append]
                  rfl
                · rw [etk]
                  exact sub.append (List.Sublist.refl _)
              · refine k2 _ (Same.refl _) ⟨ss, hss, ?_⟩
                rw [etk]
                exact sub.trans (List.sublist_append_left _ _)
            · intro H12 acc s12 hD12 _ ⟨ss, hss, sub⟩
              subst hss
              have sub' : ss.Sublist zs := sub.trans (List.take_sublist _ _)
              have lss := sub'.length_le
              refine ⟨D2, ss, rfl, SqL.of hD12, by omega, fun ys p pm so hp => ?_⟩
              have lys := pm.length_eq
              have s13 : Same H12 (upd H12 p (.lst (ys.map V.str))) := same_upd hp
              refine ⟨p, _, rfl, .inl ⟨SqL.of upd_same, fun t2 ht2 => ?_⟩⟩
              have s14 := (s12.trans s13).trans (same_upd (o := .tup (ys.map V.str)) ht2)
              refine ⟨lm, _, _, rfl, rfl, s14 _ _ h2', szLt (by rw [List.length_map]; omega), ?_⟩
              have t2m : t2 ≠ lm := (ne_of_none ((s12.trans s13) _ _ h2') ht2).symm
              have e15 := (simm s14).trans (Imm.list (o := .lst (ka.map V.ref ++ [.ref t2])) (s14 _ _ h2'))
              have h4'' := (h4'.imp fun _ _ h => e15.sq h).snoc (a := t2) (x := ys) (SqT.of (by rw [upd_ne t2m, upd_same]))
              refine ⟨sa ++ [t], ka ++ [t2], steps ++ [ns], marks ++ [ys], some (.int i), some (.ref lb), some (.int worn), rfl, ?_, ?_, ?_, ?_, h3'.imp fun _ _ h => e15.sq h, h4'', ?_, ?_, h5, ?_⟩
              · rw [show c + 3 + (i + 1) * 5 = c + 3 + i * 5 + 4 + 1 by omega]
                exact (P11.same s14).upd om
              · exact ((k9.trans k11).trans (skp s14)).mut hlm0
              · rw [upd_ne nsm]
                exact s14 _ _ h1'
              · rw [upd_same, List.map_append]
                rfl
              · rw [List.length_append, g5]
                rfl
              · rw [List.length_append, g6]
                rfl
              · intro r hr
                rcases List.mem_append.mp hr with hr | hr
                · exact g8 r hr
                · have : r = ys := by simpa using hr
                  rw [this]
                  exact ⟨sorted_rise so (pm.nodup_iff.mpr (nz.sublist sub')) fun z hz => gz z (sub'.subset (pm.mem_iff.mp hz)), by omega⟩
      · rintro σ H5 ⟨sa, ka, steps, marks, y6, y7, y8, rfl, P5, k5, g1, g2, g3, g4, g5, g6, g7, g8⟩
        rw [Int.toNat_natCast] at P5 g5 g6
        refine ⟨_, rfl, ls, _, rfl, .inl ⟨SqL.of g1, fun s hs => ?_⟩⟩
        have s1 : Same H5 (upd H5 s (.tup (sa.map V.ref))) := same_upd hs
        refine ⟨_, rfl, lm, _, rfl, .inl ⟨SqL.of (s1 _ _ g2), fun k hk => ⟨by show 2 ≤ sizeLine; decide, fun m hm => ?_⟩⟩⟩
        have s2 := s1.trans (same_upd (o := .tup (ka.map V.ref)) hk)
        have s3 := s2.trans (same_upd (o := .tup [.ref s, .ref k]) hm)
        have nsk : s ≠ k := ne_of_none (show upd H5 s (.tup (sa.map V.ref)) s = _ from upd_same) hk
        have nsm' : s ≠ m := ne_of_none ((same_upd (o := .tup (ka.map V.ref)) hk) _ _ (show upd H5 s (.tup (sa.map V.ref)) s = _ from upd_same)) hm
        have nkm : k ≠ m := ne_of_none (show upd (upd H5 s (.tup (sa.map V.ref))) k (.tup (ka.map V.ref)) k = _ from upd_same) hm
        refine q _ m steps marks ((P5.same s3).mono (by omega)) (k5.trans (skp s3)) ⟨s, k, sa, ka, SqT.of upd_same, SqT.of ?_, SqT.of ?_, g3.imp fun _ _ h => (simm s3).sq h, g4.imp fun _ _ h => (simm s3).sq h⟩ ⟨by omega, by omega, by omega, ?_, g8⟩
        · rw [upd_ne nsm', upd_ne nsk, upd_same]
        · rw [upd_ne nkm, upd_same]
        · rw [g5]
          exact g7
end

/-! ### what is reached; rows picked by a test: the mathematics -/
def pick (f : Nat → Bool) (n : Nat) : List Int := ((List.range n).filter f).map Int.ofNat
theorem pick_yes {f : Nat → Bool} {n : Nat} (h : f n = true) : pick f (n + 1) = pick f n ++ [(n : Int)] := by
  unfold pick
  rw [List.range_succ, List.filter_append, List.map_append, List.filter_cons, if_pos h] <;> rfl
theorem pick_no {f : Nat → Bool} {n : Nat} (h : f n = false) : pick f (n + 1) = pick f n := by
  unfold pick
  rw [List.range_succ, List.filter_append, List.map_append, List.filter_cons, if_neg (by rw [h]; decide)]
  show _ ++ [] = _
  rw [List.append_nil]
theorem pick_mem {f : Nat → Bool} {n : Nat} {x : Int} : x ∈ pick f n ↔ ∃ j : Nat, j < n ∧ f j = true ∧ x = j := by
  unfold pick
  rw [List.mem_map]
  constructor
  · rintro ⟨j, hj, rfl⟩
    rw [List.mem_filter, List.mem_range] at hj
    exact ⟨j, hj.1, hj.2, rfl⟩
  · rintro ⟨j, h1, h2, rfl⟩
    exact ⟨j, List.mem_filter.mpr ⟨List.mem_range.mpr h1, h2⟩, rfl⟩
theorem pick_rise (f : Nat → Bool) (n : Nat) : RiseI n (pick f n) := by
  refine ⟨?_, fun x hx => ?_⟩
  · unfold pick
    refine List.pairwise_map.mpr ((List.pairwise_lt_range.filter f).imp fun {a b} h => ?_)
    show (a : Int) < (b : Int)
    omega
  · obtain ⟨j, h1, _, rfl⟩ := pick_mem.mp hx
    omega
theorem pick_len (f : Nat → Bool) (n : Nat) : (pick f n).length ≤ n := by
  have := rise_len (pick_rise f n) (by omega)
  omega
theorem rise_ext : ∀ {l m : List Int}, l.Pairwise (· < ·) → m.Pairwise (· < ·) → (∀ t, t ∈ l ↔ t ∈ m) → l = m
  | [], [], _, _, _ => rfl
  | [], y :: r, _, _, h => absurd ((h y).mpr List.mem_cons_self) List.not_mem_nil
  | x :: l, [], _, _, h => absurd ((h x).mp List.mem_cons_self) List.not_mem_nil
  | x :: l, y :: r, p, q, h => by
    obtain ⟨p1, p2⟩ := List.pairwise_cons.mp p
    obtain ⟨q1, q2⟩ := List.pairwise_cons.mp q
    have e : x = y := by
      have a := (h x).mp List.mem_cons_self
      have b := (h y).mpr List.mem_cons_self
      rcases List.mem_cons.mp a with a | a
      · exact a
      · rcases List.mem_cons.mp b with b | b
        · exact b.symm
        · have := p1 y b
          have := q1 x a
          omega
    subst e
    rw [rise_ext p2 q2 fun t => ⟨fun ht => ?_, fun ht => ?_⟩]
    · rcases List.mem_cons.mp ((h t).mp (List.mem_cons_of_mem _ ht)) with z | z
      · have := p1 t ht
        omega
      · exact z
    · rcases List.mem_cons.mp ((h t).mpr (List.mem_cons_of_mem _ ht)) with z | z
      · have := q1 t ht
        omega
      · exact z
/-- a step leads from x to t -/
def Edge (steps : List (List Int)) (x t : Int) : Prop := ∃ row, steps[x.toNat]? = some row ∧ t ∈ row
inductive Reach (steps : List (List Int)) (s : Int) : Int → Prop where
  | base : Reach steps s s
  | step {x t : Int} (h : Reach steps s x) (e : Edge steps x t) : Reach steps s t
theorem reach_closed {steps : List (List Int)} {s : Int} {F : List Int} (h0 : s ∈ F) (hc : ∀ x ∈ F, ∀ t, Edge steps x t → t ∈ F) : ∀ t, Reach steps s t → t ∈ F := by
  intro t h
  induction h with
  | base => exact h0
  | step _ e ih => exact hc _ ih _ e
/-- a search: F found so far, W of these still to be looked at -/
structure Srch (steps : List (List Int)) (s : Int) (F W : List Int) : Prop where
  nd : F.Nodup
  s0 : s ∈ F
  re : ∀ x ∈ F, Reach steps s x
  bd : ∀ x ∈ F, 0 ≤ x ∧ x < steps.length
  ww : ∀ x ∈ W, x ∈ F
  wl : W.length ≤ F.length
  cl : ∀ x ∈ F, x ∉ W → ∀ t, Edge steps x t → t ∈ F
theorem nodup_len {F : List Int} {n : Nat} (nd : F.Nodup) (bd : ∀ x ∈ F, 0 ≤ x ∧ x < n) : F.length ≤ n := by
  have := pigeon F ((List.range n).map Int.ofNat) nd fun x hx => by
    have := bd x hx
    exact List.mem_map.mpr ⟨x.toNat, List.mem_range.mpr (by omega), by show ((x.toNat : Nat) : Int) = x; omega⟩
  rw [List.length_map, List.length_range] at this
  exact this
theorem sorted_strict {ys F : List Int} (pm : ys.Perm F) (so : ys.Pairwise (· ≤ ·)) (nd : F.Nodup) : ys.Pairwise (· < ·) :=
  (so.and (pm.nodup_iff.mpr nd)).imp fun {a b} h => by
    have h1 : a ≤ b := h.1
    have h2 : a ≠ b := h.2
    omega
theorem Srch.done {steps : List (List Int)} {s : Int} {F ys : List Int} (S : Srch steps s F []) (pm : ys.Perm F) (so : ys.Pairwise (· ≤ ·)) : RiseI steps.length ys ∧ ∀ t, t ∈ ys ↔ Reach steps s t :=
  ⟨⟨sorted_strict pm so S.nd, fun n hn => S.bd n (pm.mem_iff.mp hn)⟩, fun t => ⟨fun h => S.re t (pm.mem_iff.mp h), fun h => pm.mem_iff.mpr (reach_closed S.s0 (fun x hx => S.cl x hx List.not_mem_nil) t h)⟩⟩
/-- one thing is looked at: F' and W' behind i of its steps -/
structure Look (steps : List (List Int)) (s x : Int) (row : List Int) (i : Nat) (F W : List Int) : Prop where
  nd : F.Nodup
  s0 : s ∈ F
  re : ∀ x ∈ F, Reach steps s x
  bd : ∀ x ∈ F, 0 ≤ x ∧ x < steps.length
  ww : ∀ x ∈ W, x ∈ F
  wl : W.length ≤ F.length
  xf : x ∈ F
  cl : ∀ y ∈ F, y ∉ W → y ≠ x → ∀ t, Edge steps y t → t ∈ F
  tk : ∀ t ∈ row.take i, t ∈ F
theorem Look.yes {steps : List (List Int)} {s x t : Int} {row F W : List Int} {i : Nat} (L : Look steps s x row i F W) (ht : row[i]? = some t) (h : t ∈ F) : Look steps s x row (i + 1) F W :=
  ⟨L.nd, L.s0, L.re, L.bd, L.ww, L.wl, L.xf, L.cl, fun u hu => by
    rw [List.take_add_one, ht] at hu
    rcases List.mem_append.mp hu with hu | hu
    · exact L.tk u hu
    · have : u = t := by simpa using hu
      rw [this]
      exact h⟩
theorem Look.new {steps : List (List Int)} {s x t : Int} {row F W : List Int} {i : Nat} (L : Look steps s x row i F W) (hr : steps[x.toNat]? = some row) (hb : ∀ r ∈ steps, RiseI steps.length r) (ht : row[i]? = some t) (h : t ∉ F) : Look steps s x row (i + 1) (F ++ [t]) (W ++ [t]) := by
  have tr : t ∈ row := List.mem_of_getElem? ht
  have mem : ∀ y ∈ F, y ∈ F ++ [t] := fun y hy => List.mem_append_left _ hy
  refine ⟨?_, mem _ L.s0, fun y hy => ?_, fun y hy => ?_, fun y hy => ?_, by rw [List.length_append, List.length_append]; exact Nat.add_le_add_right L.wl 1, mem _ L.xf, fun y hy hn hx u hu => ?_, fun u hu => ?_⟩
  · rw [List.nodup_append]
    refine ⟨L.nd, by simp, fun y hy z hz e => ?_⟩
    have : z = t := by simpa using hz
    rw [e, this] at hy
    exact h hy
  · rcases List.mem_append.mp hy with hy | hy
    · exact L.re y hy
    · have : y = t := by simpa using hy
      rw [this]
      exact .step (L.re x L.xf) ⟨row, hr, tr⟩
  · rcases List.mem_append.mp hy with hy | hy
    · exact L.bd y hy
    · have : y = t := by simpa using hy
      rw [this]
      exact (hb row (List.mem_of_getElem? hr)).2 t tr
  · rcases List.mem_append.mp hy with hy | hy
    · exact mem y (L.ww y hy)
    · exact List.mem_append_right _ hy
  · rcases List.mem_append.mp hy with hy | hy
    · exact mem u (L.cl y hy (fun z => hn (List.mem_append_left _ z)) hx u hu)
    · exact absurd (List.mem_append_right _ hy) hn
  · rw [List.take_add_one, ht] at hu
    rcases List.mem_append.mp hu with hu | hu
    · exact mem u (L.tk u hu)
    · exact List.mem_append_right _ hu
theorem Look.fin {steps : List (List Int)} {s x : Int} {row F W : List Int} (L : Look steps s x row row.length F W) (hr : steps[x.toNat]? = some row) : Srch steps s F W :=
  ⟨L.nd, L.s0, L.re, L.bd, L.ww, L.wl, fun y hy hn u hu => by
    by_cases e : y = x
    · subst e
      obtain ⟨r, h1, h2⟩ := hu
      rw [hr] at h1
      cases h1
      exact L.tk u (by rw [List.take_length]; exact h2)
    · exact L.cl y hy hn e u hu⟩
theorem Srch.look {steps : List (List Int)} {s x : Int} {F W : List Int} (S : Srch steps s F (W ++ [x])) (row : List Int) : Look steps s x row 0 F W :=
  ⟨S.nd, S.s0, S.re, S.bd, fun y hy => S.ww y (List.mem_append_left _ hy), (by have := S.wl; rw [List.length_append] at this; exact Nat.le_of_succ_le this), S.ww x (by simp), fun y hy hn hx u hu => S.cl y hy (fun z => by
    rcases List.mem_append.mp z with z | z
    · exact hn z
    · exact hx (by simpa using z)) u hu, fun u hu => by simp at hu⟩
theorem Srch.start {steps : List (List Int)} {s : Int} (h : 0 ≤ s ∧ s < steps.length) : Srch steps s [s] [s] :=
  ⟨by simp, by simp, fun x hx => by rw [show x = s by simpa using hx]; exact .base, fun x hx => by rw [show x = s by simpa using hx]; exact h, fun x hx => hx, Nat.le_refl _, fun x hx hn => absurd hx hn⟩

/-! ### enumerate(t), t a tuple -/
namespace EnT
open PySem PySem.Spec PyProof.Rows L2
abbrev titer (t : Addr) : Obj := { cls := .type "tuple_iterator", data := .fields #[.ref t, .int 0 0] }
abbrev enob (i : Addr) : Obj := { cls := .type "enumerate", data := .fields #[.none, .bool false, .ref i, rawInt 0, .none, .none] }
theorem made (t : Addr) (ys : Array Value) :
    Meets (Builtin.«enumerate.__new__» ⟨[.type "enumerate", .ref t], []⟩) (fun _ R s => s.heap.IsTuple t ys ∧ R (.ok (.ret (.ref (s.heap.push (titer t)).objs.size))) { s with heap := (s.heap.push (titer t)).push (enob s.heap.objs.size) }) :=
  .of_wp fun prog w A R s hyp => by
    obtain ⟨hp, gg, dd, tt, oo⟩ := s
    obtain ⟨isT, hyp⟩ := hyp
    have sub1 := sub_enumerate
    have it1 : ∀ {A' : Around} {E : Value → Shared → Prop} {Q : Value → Shared → Prop}, Q (.ref hp.objs.size) ⟨hp.push (titer t), gg, dd, tt, oo⟩ → wpAny (model prog w) A' (pyIter (.ref t)) Q E ⟨hp, gg, dd, tt, oo⟩ := fun q => wpAny_pyIter_tuple isT q
    wp_walk using it1
    refine wpAny_stack_any fun _ => wpAny_pure ?_
    split
    · rename_i cc _ _ _ _ _
      cases (cc == Value.type "enumerate") <;> (wp_walk using it1; exact ⟨_, rfl, hyp⟩)
    · wp_walk using it1
      exact ⟨_, rfl, hyp⟩
theorem called {prog : Program} {w : World} {A : Around} {E : Value → Shared → Prop} {s : Shared} {t : Addr} {ys : Array Value} {Q : Value → Shared → Prop} (isT : s.heap.IsTuple t ys)
    (k : ∀ g, IsEnum g (s.heap.objs.size + 1) s.heap.objs.size 0 .none → g.IsTupleIter s.heap.objs.size t 0 → (∀ b o, s.heap.get? b = some o → g.get? b = some o) → Q (.ref (s.heap.objs.size + 1)) { s with heap := g }) :
    wpAny (model prog w) A (call (.type "enumerate") [.ref t]) Q E s := by
  refine callType_new F.called_enumerate (by decide) (F.typeCall_enumerate_1 _) (F.newCall_enumerate_1 _) (fun ob => F.args_object_init_2 ob _) F.entry_enumerate_new (made t ys) ⟨isT, ?_⟩
  have sz : (s.heap.push (titer t)).objs.size = s.heap.objs.size + 1 := Heap.size_push ..
  have en : IsEnum ((s.heap.push (titer t)).push (enob s.heap.objs.size)) (s.heap.objs.size + 1) s.heap.objs.size 0 .none := by
    have z := Heap.get?_push_size (s.heap.push (titer t)) (o := enob s.heap.objs.size) rfl
    rw [sz] at z
    exact z
  show _ ∧ _
  rw [sz]
  exact ⟨⟨_, en, rfl⟩, k _ en ⟨_, Heap.get?_push_of_some _ (Heap.get?_push_size _ rfl), rfl, rfl⟩ fun b o x => Heap.get?_push_of_some _ (Heap.get?_push_of_some _ x)⟩
theorem ends {prog : Program} {w : World} {A : Around} {E : Value → Shared → Prop} {s : Shared} {e ti a : Addr} {i : Nat} {ys : Array Value} {old : Value} {Q : Option Value → Shared → Prop} (hh : A.handled = none) (e1 : IsEnum s.heap e ti i old) (e2 : s.heap.IsTupleIter ti a i)
    (isT : s.heap.IsTuple a ys) (no : ys[i]? = none) (k : ∀ g, Heap.ExtBut ti s.heap g → Q none { s with heap := g }) : wpAny (model prog w) A (pyNext (.ref e)) Q E s := by
  have ty : s.TypeIs (.ref e) "enumerate" := ⟨_, e1, rfl⟩
  unfold pyNext
  refine wpAny_bind (wpAny_attempt (wpAny_callSpecial?_slot (name := Str.ofString "__next__") ty F.slot_enumerate_next (wpAny_call_entry F.slot_enumerate_next ty F.entry_enumerate_next ?_ (F.args_enumerate_next_1 _))))
  show wpAny _ _ (field (.ref e) 2 >>= _) _ _ s
  refine wpAny_bind (wpAny_field e1 rfl (x := .ref ti) rfl (wpAny_bind (wpAny_nextOf_tuple_end hh e2 isT no fun g x eg ex => ?_)))
  obtain ⟨o, q1, q2⟩ := ex
  exact wpAny_bind (wpAny_isInstance (T := "StopIteration") (b := true) ⟨o, q1, q2⟩ isSubtype_stop (wpAny_pure (k _ eg)))
/-- the tuple at a, each item in a new pair with its place -/
def Ien (K : PySem.W.Frag) (a : Addr) : It where
  go := fun i H => ∃ (xs : List V) (x : V), SqT K H a xs ∧ xs[i]? = some x
  yld := fun i H v H' => ∃ p x, v = .ref p ∧ H p = none ∧ H' = L2.upd H p (.tup [.int (i : Nat), x]) ∧ ∀ xs, SqT K H a xs → xs[i]? = some x
  stop := fun i H => ∃ xs : List V, SqT K H a xs ∧ xs.length ≤ i
theorem turn {P : Program} {w : World} {K : PySem.W.Frag} {elts : List Expr} {kk : Nat} {tpos : Pos} (a en ti : Addr) :
    Turn P w K (.Tuple elts kk tpos) (Ien K a) [en, ti] en (fun i h => (∃ old, IsEnum h en ti ((i : Nat) : Int) old) ∧ h.IsTupleIter ti a i ∧ en ≠ ti) where
  mem := List.mem_cons_self
  obj := fun i h st b hb => by
    obtain ⟨⟨old, e1⟩, ⟨o, e2, _, e3⟩, _⟩ := st
    rcases (by simpa using hb : b = en ∨ b = ti) with rfl | rfl
    · exact ⟨_, e1, fun v q => nomatch q⟩
    · exact ⟨o, e2, fun v q => by rw [e3] at q; cases q⟩
  keep := fun i h h' st k => by
    obtain ⟨⟨old, e1⟩, e2, e3⟩ := st
    exact ⟨⟨old, k en List.mem_cons_self _ e1⟩, e2.at fun o q => k ti (List.mem_cons_of_mem _ List.mem_cons_self) o q, e3⟩
  item := by
    intro X hP hw hK hc i pins s σ H E I hf st hg
    subst hP hw hK
    obtain ⟨⟨old, e1⟩, e2, ne⟩ := st
    obtain ⟨xs, x, hq, hx⟩ := hg
    obtain ⟨its, rv, p, hz⟩ := I.tuple hq
    obtain ⟨u, hu, ru⟩ := rv.get hx
    have isT : s.heap.IsTuple a its.toArray := p
    have l1 : en < s.heap.objs.size := Heap.lt_size e1
    have l2 : ti < s.heap.objs.size := by
      obtain ⟨_, q, _⟩ := e2
      exact Heap.lt_size q
    have n1 : a ≠ ti := fun z => by
      obtain ⟨o, q1, q2, _⟩ := e2
      obtain ⟨o2, r1, r2, _⟩ := isT
      rw [z, q1] at r1
      cases r1
      rw [q2] at r2
      exact absurd r2 (by decide)
    have n2 : a ≠ en := fun z => by
      obtain ⟨o2, r1, r2, _⟩ := isT
      rw [z, e1] at r1
      cases r1
      exact absurd (show Value.type "enumerate" = Value.type "tuple" from r2) (by decide)
    have iu : i < its.toArray.size := by
      have := (List.getElem?_eq_some_iff.mp hu).1
      simpa using this
    refine wpAny_pyNext_enum_itemD (Draws.tuple (prog := X.prog) (w := X.w) (A := X.A.in1) (show X.A.in1.handled = none from I.ok.hd hc) ti a n1 its.toArray) e1 ⟨e2, isT⟩ iu ne (by simp [ne, n2.symm]) fun y g tk hy ho sti hT hsz hk => ?_
    have ey : y = u := by
      have : its[i]? = some y := by simpa using hy
      rw [hu] at this
      exact (Option.some.inj this).symm
    subst ey
    refine ⟨_, rfl, wpAny_letOwnedTupleGo_enum (s := { s with heap := g, toks := tk + 1 }) ho fun g2 e4 sb => ?_⟩
    have hT2 : g2.get? s.heap.objs.size = some { cls := .type "tuple", data := .seq #[.int i tk, y] } := (sb.2 _ (Nat.ne_of_gt l1)).trans hT
    have nw : ObjOk X.prog X.w (L2.upd H s.heap.objs.size (.tup [.int (i : Nat), x])) g2 s.heap.objs.size (.tup [.int (i : Nat), x]) :=
      ⟨by show 2 ≤ sizeLine; decide, [.int i tk, y], .cons ⟨_, rfl⟩ (.cons ru .nil), ⟨_, hT2, rfl, _, rfl⟩⟩
    have I1 : Inv X pins σ (L2.upd H s.heap.objs.size (.tup [.int (i : Nat), x])) { s with heap := g2, toks := tk + 1 } :=
      I.turnedNew (ch := [en, ti]) (fun b o hb q => (sb.2 b fun z => hb (by simp [z])).trans (hk b o (fun z => hb (by simp [z])) (fun z => hb (by simp [z])) q)) hf (Nat.le_refl _) nw
    refine ⟨.ref s.heap.objs.size, _, I1, rfl, ⟨_, x, rfl, I.hok.fresh (Nat.le_refl _), rfl, fun ys hy => by rw [I.tuple_inj hy hq]; exact hx⟩, ⟨⟨y, ?_⟩, sti.1.at fun o q => (sb.2 ti ne.symm).trans q, ne⟩, fun b hb => ?_⟩
    · rw [show ((i + 1 : Nat) : Int) = (i : Int) + 1 by omega]
      exact e4
    · have lb : b < s.heap.objs.size := by
        rcases (by simpa using hb : b = en ∨ b = ti) with rfl | rfl
        · exact l1
        · exact l2
      rw [upd_ne (Nat.ne_of_lt lb)]
      exact (hf b hb).1
  done := by
    intro X hP hw hK hc i pins s σ H E I hf st hg
    subst hP hw hK
    obtain ⟨⟨old, e1⟩, e2, ne⟩ := st
    obtain ⟨xs, hq, hx⟩ := hg
    obtain ⟨its, rv, p, hz⟩ := I.tuple hq
    obtain ⟨f0, f1, f2, f3, f4, f5⟩ := hf ti (by simp)
    have hl := rv.length
    have isT : s.heap.IsTuple a its.toArray := p
    exact ends (I.ok.hd hc) e1 e2 isT (by simp; omega) fun g eb => ⟨rfl, I.turned (t' := s.toks) (fun b o hb q => eb b o hb q) f0 f1 f3 f4 f5⟩
  self := fun A i s Q E st k => by
    obtain ⟨⟨_, e1⟩, _⟩ := st
    exact wpAny_pyIter_enum e1 k
def iEn (K : PySem.W.Frag) (ta : TA) : TI := fun σ H R => ta σ H fun vs H1 => ∃ a xs, vs = [.ref a] ∧ SqT K H1 a xs ∧ R (Ien K a) H1
theorem walk {K : PySem.W.Frag} {a : Addr} {xs : List V} : Walk (Ien K a) xs.length (fun H => SqT K H a xs) (YPair (fun i => some (.int (i : Nat))) (fun i => xs[i]?)) := by
  refine ⟨fun i _ hi q => ⟨xs, xs[i], q, List.getElem?_eq_getElem hi⟩, fun _ q => ⟨xs, q, Nat.le_refl _⟩, fun i H v H' _ q y => ?_⟩
  obtain ⟨p, x, h1, h2, h3, h4⟩ := y
  exact ⟨p, .int (i : Nat), x, h1, h2, h3, rfl, h4 xs q⟩
end EnT
theorem pi_enumT (K : PySem.W.Frag) {X : Cx} {e : Expr} {ta : TA} {p pos tpos : Pos} {elts : List Expr} {kk : Nat} (hg : Gl X "enumerate") (hm : X.mg "enumerate" = none) (ha : L2.PA X [e] ta) (hK : X.K = K := by rfl) (hs : starEach [e] X.env = [(false, eval e X.env)] := by rfl) :
    PI X (.Tuple elts kk tpos) (.Call (.Name "enumerate" p) [e] [] pos) (EnT.iEn K ta) := by
  subst hK
  refine ⟨fun pins s σ H R I h => ?_⟩
  refine Call_ (ld_blt I hg hm boot_enumerate (PyProof.Rows.callWith_type1 (thn (ha.run pos pins s σ H _ I h) fun us s1 ⟨vs, H1, I1, r1, a, xs, ex, hq, q⟩ => ?_) hs rfl))
  subst ex
  obtain ⟨u, rfl, ru⟩ := r1.one
  cases ru
  obtain ⟨its, rv, p', hz⟩ := I1.tuple hq
  refine EnT.called (show s1.heap.IsTuple a its.toArray from p') fun g e1 e2 hk => wpAny_pyIter_enum e1 ?_
  refine ⟨s1.heap.objs.size + 1, [s1.heap.objs.size + 1, s1.heap.objs.size], _, _, H1, rfl, I1.kept (t' := s1.toks) hk, EnT.turn a (s1.heap.objs.size + 1) s1.heap.objs.size, ⟨⟨.none, e1⟩, e2, Nat.succ_ne_self _⟩, fun b hb => ?_, q⟩
  have lb : s1.heap.objs.size ≤ b := by
    rcases (by simpa using hb : b = s1.heap.objs.size + 1 ∨ b = s1.heap.objs.size) with z | z
    · exact z ▸ Nat.le_add_right _ _
    · exact z ▸ Nat.le_refl _
  exact I1.fpOk lb (I1.hok.fresh lb)

/-! ### behind and reached -/
section
variable {K : PySem.W.Frag}
theorem lc_enumS {a : Addr} {xs : List V} {j j2 : Nat} {tt : TT} {te : TE} {vs : List Nat} {σ : L2.St} {H1 : Hp} {D : Addr} {Qd : Hp → Prop} (ok : Nat → List V → Prop)
    (hx : SqT K H1 a xs) (hD : H1 D = none) (hn : xs.length ≤ 100000) (h0 : ok 0 []) (hw : ∀ x y, wipe (((wipe σ vs).set j (some x)).set j2 (some y)) vs = wipe σ vs)
    (turn : ∀ (i : Nat) (x : V) (H : Hp) (acc : List V), xs[i]? = some x → Same H1 H → ok i acc → acc.length ≤ i → ∀ (N1 : V → Hp → Prop) (N2 : Hp → Prop),
      (∀ y H', Same H H' → ok (i + 1) (acc ++ [y]) → N1 y H') → (∀ H', Same H H' → ok (i + 1) acc → N2 H') →
      tt (((wipe σ vs).set j (some (.int (i : Nat)))).set j2 (some x)) H fun b H3 => if b = true then te (((wipe σ vs).set j (some (.int (i : Nat)))).set j2 (some x)) H3 N1 else N2 H3)
    (done : ∀ (H : Hp) (acc : List V), Same H1 H → H D = some (.lst acc) → acc.length ≤ xs.length → ok xs.length acc → Qd H) :
    ∃ W : Nat → Nat → Hp → Prop, (∃ m, W 0 m (L2.upd H1 D (.lst []))) ∧ ∀ i m H, W i m H →
      ((EnT.Ien K a).stop i H ∧ Qd H) ∨ ((EnT.Ien K a).go i H ∧ ∃ Nx : Hp → Prop, (∀ H', Nx H' → ∃ m', m' < m ∧ W (i + 1) m' H') ∧ ∀ x H', (EnT.Ien K a).yld i H x H' → (gTup K 2 (gCons (gName j) (gCons (gName j2) gNil))) x (wipe σ vs) H' fun σ2 H2 => wipe σ2 vs = wipe σ vs ∧ tt σ2 H2 fun b H3 =>
        if b = true then te σ2 H3 fun y H4 => ∃ acc, H4 D = some (.lst acc) ∧ acc.length < sizeLine ∧ Nx (L2.upd H4 D (.lst (acc ++ [y]))) else Nx H3) := by
  refine lc_it (EnT.walk (K := K) (a := a) (xs := xs)) (fun i H => ∃ acc, Same H1 H ∧ H D = some (.lst acc) ∧ acc.length ≤ i ∧ ok i acc) ⟨[], same_upd hD, upd_same, Nat.le_refl _, h0⟩ (fun i H _ p => ?_) (fun i x H H' hi p y => ?_) (fun H p => ?_)
  · obtain ⟨acc, p2, _⟩ := p
    exact ssqt p2 hx
  · obtain ⟨acc, p2, p3, p4, p5⟩ := p
    obtain ⟨T, u, z, rfl, hT, rfl, h1, h2⟩ := y
    cases h1
    have sT : Same H (L2.upd H T (.tup [.int (i : Nat), z])) := same_upd hT
    refine ⟨T, _, rfl, SqT.of upd_same, rfl, _, _, rfl, _, _, rfl, rfl, hw _ _, turn i z _ acc h2 (p2.trans sT) p5 p4 _ _ (fun y H' q2 q3 => ⟨acc, q2 _ _ (sT _ _ p3), szLt (by omega), acc ++ [y], smut ((p2.trans sT).trans q2) hD, upd_same, ?_, q3⟩) (fun H' q2 q3 => ⟨acc, (p2.trans sT).trans q2, q2 _ _ (sT _ _ p3), by omega, q3⟩)⟩
    rw [List.length_append]
    show acc.length + 1 ≤ i + 1
    omega
  · obtain ⟨acc, p2, p3, p4, p5⟩ := p
    exact done H acc p2 p3 p4 p5
end
def behindOf (steps : List (List Int)) (t : Int) (n : Nat) : List Int := pick (fun j => decide (t ∈ steps.getD j [])) n
abbrev sbehind : Stmt := topS 1
theorem scbehind : FnScope ["machine", "standing", "one", "ahead"] ["machine", "standing"] (defScope sbehind) := ⟨rfl, rfl, rfl, by decide +kernel, rfl, by decide +kernel, by decide +kernel⟩
abbrev sreached : Stmt := topS 2
theorem screached : FnScope ["machine", "standing", "found", "waiting", "to"] ["machine", "standing"] (defScope sreached) := ⟨rfl, rfl, rfl, by decide +kernel, rfl, by decide +kernel, by decide +kernel⟩
abbrev s_law_number : Stmt := topS 9
theorem sc_law_number : FnScope ["_law_thing", "_law_low", "_law_high"] ["_law_thing", "_law_low", "_law_high"] (defScope s_law_number) := ⟨rfl, rfl, rfl, by decide +kernel, rfl, by decide +kernel, by decide +kernel⟩
abbrev s_law_tuple : Stmt := topS 10
theorem sc_law_tuple : FnScope ["_law_thing", "_law_least", "_law_most"] ["_law_thing", "_law_least", "_law_most"] (defScope s_law_tuple) := ⟨rfl, rfl, rfl, by decide +kernel, rfl, by decide +kernel, by decide +kernel⟩
abbrev s_law_good_set : Stmt := topS 11
theorem sc_law_good_set : FnScope ["_law_thing", "_law_many", "_law_k"] ["_law_thing", "_law_many"] (defScope s_law_good_set) := ⟨rfl, rfl, rfl, by decide +kernel, rfl, by decide +kernel, by decide +kernel⟩
abbrev s_law_walk : Stmt := topS 13
theorem sc_law_walk : FnScope ["_law_machine", "_law_standing", "_law_found", "_law_at", "_law_to"] ["_law_machine", "_law_standing"] (defScope s_law_walk) := ⟨rfl, rfl, rfl, by decide +kernel, rfl, by decide +kernel, by decide +kernel⟩
section
variable {P : Program} {w : World} {K : PySem.W.Frag} {mg : Str → Option Value} {base : Heap}
def spBehind (K : PySem.W.Frag) : Sp := fun vs H Q _ => ∃ (m : Addr) (steps : List (List Int)) (marks : List (List Str)) (t : Int), vs = [.ref m, .int t] ∧ MachAt K H m steps marks ∧ steps.length ≤ 1000 ∧
  ∀ H' r, Same H H' → H' r = some (.tup ((behindOf steps t steps.length).map V.int)) → Q (.ref r) H'
theorem ok_behind {f : Addr} {fd : FuncData} (F : Fun K "behind" "behind" sbehind f fd) (T : Bi mg) : FnOk P w K mg base CX0 1 f fd ["machine", "standing"] (spBehind K) := by
  refine F.ok scbehind (fun vs H Q E h => ?_) (fun cdv A outer s H vs Q E hr h => ?_)
  · obtain ⟨m, steps, marks, t, rfl, _⟩ := h
    rfl
  · obtain ⟨m, steps, marks, t, rfl, M, hl, q⟩ := h
    obtain ⟨s, k, sa, ka, h1, h2, h3, h4, h5⟩ := M.ex
    have l1 := h4.len
    refine ⟨_, (pss_one (ps_ret (pe_callTy call_tuple_of (by rfl) T.tuple (by decide +kernel) (pa_cons (pe_lc (own := [("one", 2), ("ahead", 3)]) (g := gTup K 2 (gCons (gName 2) (gCons (gName 3) gNil))) rfl scbehind.nd (pi_enumT K (by rfl) T.enumerate (pa_cons (pe_ix ix_tup (pv 0) pe_int (fun _ _ => rfl)) pa_nil)) (blkOk_by (own := [("one", 2), ("ahead", 3)]) (N := ["machine", "standing", "one", "ahead"]) (sc := defScope sbehind) (by decide +kernel)) (fun _ _ _ _ _ => (pg_tup rfl (pgs_cons (pg_name (i := 2) scbehind.nd rfl (.inl rfl)) (pgs_cons (pg_name (i := 3) scbehind.nd rfl (.inl rfl)) pgs_nil)))) (fun _ _ _ _ _ => (pts_one (pt_cmpR (inS K) (pv 1) (pv 3) (by rfl)))) (fun _ _ _ _ _ => (pv 2))) pa_nil)))), ?_⟩
    refine ⟨_, rfl, m, _, 0, .ref s, rfl, rfl, h1, at_of (j := 0) rfl rfl, s, _, rfl, h2, fun D hD => lc_enumS (j := 2) (j2 := 3) (fun i acc => acc = (behindOf steps t i).map V.int) h2 hD (by rw [List.length_map]; omega) rfl (fun _ _ => rfl) ?_ ?_⟩
    · intro i x H1 acc hx s1 hacc _ N1 N2 k1 k2
      subst hacc
      obtain ⟨b, hb, rfl⟩ := ref_get hx
      obtain ⟨row, hrow, hrb⟩ := h4.get hb
      have eg : steps.getD i [] = row := by rw [List.getD_eq_getElem?_getD, hrow] <;> rfl
      refine ⟨_, rfl, _, rfl, b, _, rfl, .inr (ssqt s1 hrb), rfl, flat_int _, _, rfl, ?_⟩
      rw [inV_int]
      refine ite2 (fun e => ?_) (fun e => ?_)
      · refine ⟨_, rfl, k1 _ _ (Same.refl _) ?_⟩
        unfold behindOf
        rw [pick_yes (by rw [eg]; exact e), List.map_append]
        rfl
      · refine k2 _ (Same.refl _) ?_
        unfold behindOf
        rw [pick_no (by rw [eg]; simpa using e)]
    · intro H1 acc s1 hD1 _ hacc
      rw [List.length_map, l1] at hacc
      subst hacc
      exact ⟨D, _, rfl, .inl ⟨SqL.of hD1, fun l hl => q _ l (s1.trans (same_upd hl)) upd_same⟩⟩
def keyI (x : Int) : Key × V := (Sum.inl x, .bl true)
theorem val_key {F : List Int} {t : Int} : (valV (F.map keyI) (Sum.inl t : Key)).isSome = decide (t ∈ F) := by
  induction F with
  | nil => rfl
  | cons x r ih =>
    rw [List.map_cons]
    by_cases h : x = t
    · rw [valV_pos (show (keyI x).1 = Sum.inl t by rw [h]; rfl), decide_eq_true (by rw [h]; exact List.mem_cons_self)]
      rfl
    · rw [valV_neg (show (keyI x).1 ≠ Sum.inl t from fun e => h (Sum.inl.inj e)), ih]
      by_cases h2 : t ∈ r
      · rw [decide_eq_true h2, decide_eq_true (List.mem_cons_of_mem _ h2)]
      · rw [decide_eq_false h2, decide_eq_false fun z => by
          rcases List.mem_cons.mp z with z | z
          · exact h z.symm
          · exact h2 z]
theorem put_key {F : List Int} {t : Int} (h : t ∉ F) : putK (F.map keyI) (Sum.inl t : Key) (.bl true) = (F ++ [t]).map keyI := by
  unfold putK
  rw [if_neg, List.map_append]
  · rfl
  · rw [List.any_map, List.any_eq_true]
    rintro ⟨x, hx, e⟩
    have : x = t := by simpa [keyI] using e
    exact h (by rw [← this]; exact hx)
def spReached (K : PySem.W.Frag) : Sp := fun vs H Q _ => ∃ (m : Addr) (steps : List (List Int)) (marks : List (List Str)) (s : Int), vs = [.ref m, .int s] ∧ MachAt K H m steps marks ∧ (∀ r ∈ steps, RiseI steps.length r) ∧ steps.length ≤ 60 ∧ 0 ≤ s ∧ s < steps.length ∧
  ∀ H' r ns, Same H H' → H' r = some (.tup (ns.map V.int)) → RiseI steps.length ns → (∀ t, t ∈ ns ↔ Reach steps s t) → Q (.ref r) H'
theorem ok_reached {f : Addr} {fd : FuncData} (F : Fun K "reached" "reached" sreached f fd) (T : Bi mg) : FnOk P w K mg base CX0 1 f fd ["machine", "standing"] (spReached K) := by
  refine F.ok screached (fun vs H Q E h => ?_) (fun cdv A outer s H vs Q E hr h => ?_)
  · obtain ⟨m, steps, marks, t, rfl, _⟩ := h
    rfl
  · obtain ⟨m, steps, marks, z, rfl, M, hb, hl, z0, z1, q⟩ := h
    obtain ⟨sA, kA, sa, ka, h1, h2, h3, h4, h5⟩ := M.ex
    have l1 := h4.len
    refine ⟨_, (pss_cons (ps_set (i := 2) screached.nd rfl (.inl rfl) (pe_disp (pps_cons (pv 1) pe_bl pps_nil) (by rfl) (by rfl) (fun z => by cases z) (by decide)))
      (pss_cons (ps_set (i := 3) screached.nd rfl (.inl rfl) (pe_lst (pa_cons (pv 1) pa_nil)))
      (pss_cons (ps_while PassesOwn.never (pt_truth (pv 3) (by intro _; rfl))
        (pss_one (ps_for PassesOwn.never rfl (pi_tup (pe_ix ix_tup (pe_ix ix_tup (pv 0) pe_int (fun _ _ => rfl)) (pe_bm0 PySem.F.plainAttrs_list PySem.F.slot_list_pop PySem.F.type_list_pop mt_pop (pv 3)) (fun _ _ => rfl))) (pg_name (i := 4) screached.nd rfl (.inl rfl))
          (pss_one (ps_if (pt_cmp (pc_dnotin (hu_of hr) (pv 4) (pv 2)))
            (pss_cons (ps_dput (hu_of hr) (pv 2) (pv 4) pe_bl rfl)
            (pss_one (ps_expr (pe_bm PySem.F.plainAttrs_list PySem.F.slot_list_append PySem.F.type_list_append mt_append (pv 3) (pa_cons (pv 4) pa_nil)))))
            pss_nil)))))
      (pss_one (ps_ret (pe_callTy call_tuple_of (by rfl) T.tuple (by decide +kernel) (pa_cons (pe_callB (call_sortedDI rfl) (by rfl) T.sorted (by decide +kernel) (pa_cons (pv 2) pa_nil)) pa_nil))))))), ?_⟩
    -- found, waiting
    refine fun d hd => ⟨_, rfl, upd_same, [keyI z], rfl, by show 1 ≤ 15; decide, _, rfl, by show 1 ≤ sizeLine; decide, fun wt hwt => ?_⟩
    have hwt0 : H wt = none := by
      have n : wt ≠ d := fun e => by
        rw [e, upd_same] at hwt
        cases hwt
      rw [upd_ne n, upd_ne n] at hwt
      exact hwt
    have nwd : d ≠ wt := fun e => by
      rw [← e, upd_same] at hwt
      cases hwt
    refine ⟨fun μ σ H' => ∃ (F W : List Int) (y : Option V), σ = [some (.ref m), some (.int z), some (.ref d), some (.ref wt), y] ∧ H' d = some (.dK (F.map keyI)) ∧ H' wt = some (.lst (W.map V.int)) ∧ Same H H' ∧ Srch steps z F W ∧ μ = 2 * (steps.length - F.length) + W.length,
      ⟨_, [z], [z], none, rfl, ?_, upd_same, ?_, Srch.start ⟨z0, z1⟩, rfl⟩, ?_⟩
    · rw [upd_ne nwd, upd_same]
      rfl
    · exact smut (smut (same_upd hd) hd) hwt0
    · rintro μ σ H1 ⟨F, W, y, rfl, f1, f2, s1, S, rfl⟩
      refine ⟨_, rfl, _, .inl ⟨_, SqL.of f2, rfl⟩, ?_⟩
      rcases List.eq_nil_or_concat W with rfl | ⟨W', x, rfl⟩
      · -- the end
        refine iteF ⟨_, rfl, d, _, F, rfl, .inl f1, by rw [List.map_map]; rfl, ?_, fun ys p pm so hp => ?_⟩
        · have := nodup_len S.nd S.bd
          omega
        · obtain ⟨e1, e2⟩ := S.done pm so
          refine ⟨p, _, rfl, .inl ⟨SqL.of upd_same, fun t ht => q _ t ys ((s1.trans (same_upd hp)).trans (same_upd ht)) upd_same e1 e2⟩⟩
      · rw [List.concat_eq_append] at f2 S ⊢
        have fx := S.ww x (by simp)
        obtain ⟨b0, b1⟩ := S.bd x fx
        obtain ⟨jx, rfl⟩ : ∃ j : Nat, x = (j : Int) := ⟨x.toNat, by omega⟩
        obtain ⟨row, hrow⟩ : ∃ row, steps[jx]? = some row := ⟨_, List.getElem?_eq_getElem (by omega)⟩
        obtain ⟨b, hb1, hb2⟩ := h4.getx hrow
        have hrow' : steps[((jx : Int)).toNat]? = some row := by rw [Int.toNat_natCast]; exact hrow
        have nW : ((W' ++ [(jx : Int)]).map V.int)[((W' ++ [(jx : Int)]).map V.int).length - 1]? = some (.int jx) := by
          rw [List.map_append, List.length_append, List.length_map]
          show (W'.map V.int ++ [V.int jx])[W'.length + 1 - 1]? = _
          rw [Nat.add_sub_cancel, List.getElem?_append_right (by rw [List.length_map]; exact Nat.le_refl _), List.length_map, Nat.sub_self]
          rfl
        have eW : ((W' ++ [(jx : Int)]).map V.int).dropLast = W'.map V.int := by
          rw [List.map_append]
          exact List.dropLast_concat
        rw [show (!((W' ++ [(jx : Int)]).map V.int).isEmpty) = true by cases W' <;> rfl]
        refine iteT ⟨fun σ' H' => ∃ μ', μ' < 2 * (steps.length - F.length) + (W' ++ [(jx : Int)]).length ∧ ∃ (F W : List Int) (y : Option V), σ' = [some (.ref m), some (.int z), some (.ref d), some (.ref wt), y] ∧ H' d = some (.dK (F.map keyI)) ∧ H' wt = some (.lst (W.map V.int)) ∧ Same H H' ∧ Srch steps z F W ∧ μ' = 2 * (steps.length - F.length) + W.length, fun σ' H' h => h, ?_⟩
        have s2 : Same H (L2.upd H1 wt (.lst (((W' ++ [(jx : Int)]).map V.int).dropLast))) := smut s1 hwt0
        refine ⟨_, rfl, m, _, 0, .ref sA, rfl, rfl, ssqt s1 h1, at_of (j := 0) rfl rfl, _, rfl, .inl ⟨rfl, _, SqL.of f2⟩, wt, _, _, rfl, rfl, f2, nW, sA, _, _, .ref b, rfl, rfl, ssqt s2 h2, at_of (j := jx) rfl (get_map hb1), b, rfl, ⟨_, ssqt s2 hb2⟩,
          for_tup (K := K) (a := b) (xs := row.map V.int) (fun i σ H' => ∃ (F2 W2 : List Int) (y : Option V), σ = [some (.ref m), some (.int z), some (.ref d), some (.ref wt), y] ∧ H' d = some (.dK (F2.map keyI)) ∧ H' wt = some (.lst (W2.map V.int)) ∧ Same H H' ∧ Look steps z jx row i F2 W2 ∧ 2 * (steps.length - F2.length) + W2.length < 2 * (steps.length - F.length) + (W' ++ [(jx : Int)]).length)
            ⟨F, W', y, rfl, ?_, ?_, s2, S.look row, by rw [List.length_append]; show _ < _ + (W'.length + 1); omega⟩ (fun i σ H' _ ⟨_, _, _, _, _, _, e, _⟩ => ssqt e hb2) ?_ ?_⟩
        · rw [upd_ne nwd]
          exact f1
        · rw [upd_same, eW]
        · rintro i u σ H3 hi ⟨F2, W2, y2, rfl, g1, g2, s3, L, ms⟩
          obtain ⟨t, ht, rfl⟩ := map_get hi
          refine ⟨_, rfl, _, rfl, d, _, rfl, DGet.k (k := Sum.inl t) g1, _, rfl, ?_⟩
          rw [val_key]
          refine ite2 (fun e => ?_) (fun e => ?_)
          · have nt := notdec e
            have L' := L.new hrow' hb ht nt
            have lF := nodup_len L'.nd L'.bd
            rw [List.length_append] at lF
            have lF' : F2.length + 1 ≤ steps.length := lF
            have s4 : Same H (L2.upd H3 d (.dK ((F2 ++ [t]).map keyI))) := smut s3 hd
            refine ⟨_, rfl, _, rfl, d, _, rfl, DPut.k (k := Sum.inl t) g1 (szLt (by rw [List.length_map]; omega)), ?_⟩
            rw [put_key nt]
            have g2' : L2.upd H3 d (.dK ((F2 ++ [t]).map keyI)) wt = some (.lst (W2.map V.int)) := by
              rw [upd_ne nwd.symm]
              exact g2
            have lW := L.wl
            have lF2 := nodup_len L.nd L.bd
            refine ⟨_, rfl, .inl ⟨rfl, _, SqL.of g2'⟩, _, rfl, wt, _, _, rfl, rfl, g2', szLt (by rw [List.length_map]; omega), F2 ++ [t], W2 ++ [t], some (.int t), rfl, ?_, ?_, smut s4 hwt0, L', ?_⟩
            · rw [upd_ne nwd, upd_same]
            · rw [upd_same, List.map_append]
              rfl
            · rw [List.length_append, List.length_append]
              show 2 * (steps.length - (F2.length + 1)) + (W2.length + 1) < _
              omega
          · exact ⟨F2, W2, some (.int t), rfl, g1, g2, s3, L.yes ht (dec_of e), ms⟩
        · rintro σ H3 ⟨F2, W2, y2, rfl, g1, g2, s3, L, ms⟩
          rw [List.length_map] at L
          exact ⟨_, ms, F2, W2, y2, rfl, g1, g2, s3, L.fin hrow', rfl⟩
end

/-! ### lists of numbers compared -/
theorem dpa_ints {K : PySem.W.Frag} {H : Hp} : ∀ ns : List Int, DpAll K H (ns.map V.int) (ns.map PyData.int)
  | [] => .nil
  | x :: r => .cons (.int x) (dpa_ints r)
theorem dp_ints {K : PySem.W.Frag} {H : Hp} {a : Addr} {ns : List Int} (h : SqL K H a (ns.map V.int)) : Dp K H (.ref a) (.list (ns.map PyData.int)) := .lst h (dpa_ints ns)
theorem dp_intsT {K : PySem.W.Frag} {H : Hp} {a : Addr} {ns : List Int} (h : SqT K H a (ns.map V.int)) : Dp K H (.ref a) (.tuple (ns.map PyData.int)) := .tup h (dpa_ints ns)
theorem can_ints : ∀ ns : List Int, PyData.canLayAll0 (ns.map PyData.int) = true
  | [] => rfl
  | x :: r => by
    show (PyData.canLay0 (.int x) && PyData.canLayAll0 (r.map PyData.int)) = true
    rw [can_ints r]
    rfl
theorem dep_ints : ∀ ns : List Int, PyData.depthAll (ns.map PyData.int) = 0
  | [] => rfl
  | x :: r => by
    show max (PyData.depth (.int x)) (PyData.depthAll (r.map PyData.int)) = 0
    rw [dep_ints r]
    rfl
theorem shaped_ints (ns : List Int) : SeqAt.shaped (.list (ns.map PyData.int)) = true := by
  unfold SeqAt.shaped
  rw [show PyData.canLay0 (.list (ns.map PyData.int)) = true from can_ints ns, show PyData.depth (.list (ns.map PyData.int)) = 0 + 1 by rw [← dep_ints ns] <;> rfl]
  rfl
theorem shaped_intsT (ns : List Int) : SeqAt.shaped (.tuple (ns.map PyData.int)) = true := by
  unfold SeqAt.shaped
  rw [show PyData.canLay0 (.tuple (ns.map PyData.int)) = true from can_ints ns, show PyData.depth (.tuple (ns.map PyData.int)) = 0 + 1 by rw [← dep_ints ns] <;> rfl]
  rfl
theorem eqva_ints : ∀ ns ms : List Int, PyData.eqvAll (ns.map PyData.int) (ms.map PyData.int) = decide (ns = ms)
  | [], [] => rfl
  | [], _ :: _ => rfl
  | _ :: _, [] => rfl
  | x :: r, y :: t => by
    show ((x == y) && PyData.eqvAll (r.map PyData.int) (t.map PyData.int)) = _
    rw [eqva_ints r t]
    by_cases h : x = y
    · by_cases h2 : r = t
      · subst h h2
        simp
      · simp [h, h2]
    · simp [h]
theorem eqv_ints (ns ms : List Int) : PyData.eqv (.list (ns.map PyData.int)) (.list (ms.map PyData.int)) = decide (ns = ms) := eqva_ints ns ms
theorem eqv_intsT (ns ms : List Int) : PyData.eqv (.tuple (ns.map PyData.int)) (.tuple (ms.map PyData.int)) = decide (ns = ms) := eqva_ints ns ms

/-! ### the laws' own checks of numbers, tuples, sets -/
section
variable {P : Program} {w : World} {K : PySem.W.Frag} {mg : Str → Option Value} {base : Heap}
def spLNum : Sp := fun vs H Q _ => ∃ i lo hi : Int, vs = [.int i, .int lo, .int hi] ∧ Q (.bl (decide (lo ≤ i) && decide (i < hi))) H
theorem ok_lnum {f : Addr} {fd : FuncData} (F : Fun K "_law_number" "_law_number" s_law_number f fd) (T : Bi mg) : FnOk P w K mg base CX0 1 f fd ["_law_thing", "_law_low", "_law_high"] spLNum := by
  refine F.ok sc_law_number (fun vs H Q E h => ?_) (fun cdv A outer s H vs Q E hr h => ?_)
  · obtain ⟨i, lo, hi, rfl, _⟩ := h
    rfl
  · obtain ⟨i, lo, hi, rfl, q⟩ := h
    refine ⟨_, (pss_one (ps_ret (pe_and (pe_callB call_isi (by rfl) T.isinstance (by decide +kernel) (pa_cons (pv 0) (pa_cons (pe_bltn (v := .ty "int") (u := .type "int") (by rfl) T.int (by decide +kernel) rfl) pa_nil))) (pe_and (pe_not (pe_callB call_isi (by rfl) T.isinstance (by decide +kernel) (pa_cons (pv 0) (pa_cons (pe_bltn (v := .ty "bool") (u := .type "bool") (by rfl) T.bool (by decide +kernel) rfl) pa_nil)))) (pe_one (pe_chain op_le op_lt (pv 1) (pv 0) (pv 2))))))), ?_⟩
    refine ⟨_, rfl, _, _, _, _, true, rfl, .ty "int", .base (.int _), kit_ty (by decide +kernel), true, rfl, iteT ⟨_, rfl, _, _, _, _, false, rfl, .ty "bool", .base (.int _), kit_ty (by decide +kernel), false, rfl, true, rfl, iteT ⟨_, rfl, _, rfl, lo, i, rfl, rfl, _, rfl, ite2 (fun e => ?_) (fun e => ?_)⟩⟩⟩
    · refine ⟨_, rfl, i, hi, rfl, rfl, ?_⟩
      rw [e, Bool.true_and] at q
      exact q
    · rw [show decide (lo ≤ i) = false by simpa using e, Bool.false_and] at q
      exact q
def spLTup (K : PySem.W.Frag) : Sp := fun vs H Q _ => ∃ (a : Addr) (xs : List V) (lo hi : Int), vs = [.ref a, .int lo, .int hi] ∧ SqT K H a xs ∧ Q (.bl (decide (lo ≤ xs.length) && decide ((xs.length : Int) ≤ hi))) H
theorem ok_ltup {f : Addr} {fd : FuncData} (F : Fun K "_law_tuple" "_law_tuple" s_law_tuple f fd) (T : Bi mg) : FnOk P w K mg base CX0 1 f fd ["_law_thing", "_law_least", "_law_most"] (spLTup K) := by
  refine F.ok sc_law_tuple (fun vs H Q E h => ?_) (fun cdv A outer s H vs Q E hr h => ?_)
  · obtain ⟨a, xs, lo, hi, rfl, _⟩ := h
    rfl
  · obtain ⟨a, xs, lo, hi, rfl, hx, q⟩ := h
    refine ⟨_, (pss_one (ps_ret (pe_and (pe_callB call_isi (by rfl) T.isinstance (by decide +kernel) (pa_cons (pv 0) (pa_cons (pe_bltn (v := .ty "tuple") (u := .type "tuple") (by rfl) T.tuple (by decide +kernel) rfl) pa_nil))) (pe_one (pe_chain op_le op_le (pv 1) (pe_callB call_len_seq (by rfl) T.len PySem.boot_len (pa_cons (pv 0) pa_nil)) (pv 2)))))), ?_⟩
    refine ⟨_, rfl, _, _, _, _, true, rfl, .ty "tuple", ty_sqt hx, kit_ty (by decide +kernel), true, rfl, iteT ⟨_, rfl, _, rfl, a, xs, rfl, .inr hx, lo, _, rfl, rfl, _, rfl, ite2 (fun e => ?_) (fun e => ?_)⟩⟩
    · refine ⟨_, rfl, _, hi, rfl, rfl, ?_⟩
      rw [e, Bool.true_and] at q
      exact q
    · rw [show decide (lo ≤ (xs.length : Int)) = false by simpa using e, Bool.false_and] at q
      exact q
def spLSet (K : PySem.W.Frag) : Sp := fun vs H Q _ => ∃ (a : Addr) (ns : List Int) (many : Int), vs = [.ref a, .int many] ∧ SqT K H a (ns.map V.int) ∧ RiseI many ns ∧ 0 ≤ many ∧ ns.length ≤ 1000 ∧ Q (.bl true) H
theorem ok_lset {f : Addr} {fd : FuncData} (F : Fun K "_law_good_set" "_law_good_set" s_law_good_set f fd) (T : Bi mg) (c_law_tuple : Cal P w K mg base 1 "_law_tuple" ["_law_thing", "_law_least", "_law_most"] (spLTup K)) (c_law_number : Cal P w K mg base 1 "_law_number" ["_law_thing", "_law_low", "_law_high"] spLNum) :
    FnOk P w K mg base CX0 2 f fd ["_law_thing", "_law_many"] (spLSet K) := by
  refine F.ok sc_law_good_set (fun vs H Q E h => ?_) (fun cdv A outer s H vs Q E hr h => ?_)
  · obtain ⟨a, ns, many, rfl, _⟩ := h
    rfl
  · obtain ⟨a, ns, many, rfl, hx, hr1, hm, hl1, q⟩ := h
    have hl := rise_len hr1 hm
    refine ⟨_, (pss_cons (ps_if (pt_not (pt_val (pe_call c_law_tuple.G hr (by rfl) c_law_tuple.g c_law_tuple.kp c_law_tuple.b .nil pass0 (pa_cons (pv 0) (pa_cons pe_int (pa_cons (pv 1) pa_nil))))))
        (pss_one (ps_ret pe_bl))
        pss_nil)
      (pss_cons (ps_for PassesOwn.never rfl (pi_range1 (by rfl) T.range (pa_cons (pe_callB call_len_seq (by rfl) T.len PySem.boot_len (pa_cons (pv 0) pa_nil)) pa_nil)) (pg_name (i := 2) sc_law_good_set.nd rfl (.inl rfl))
        (pss_one (ps_if (PW.pt (pw_or (pt_not (pt_val (pe_call c_law_number.G hr (by rfl) c_law_number.g c_law_number.kp c_law_number.b .nil pass0 (pa_cons (pe_ix ix_tup (pv 0) (pv 2) (fun _ _ => rfl)) (pa_cons pe_int (pa_cons (pv 1) pa_nil)))))) (pw_or1 (PW.pt (pw_and (pt_cmpR op_gt (pv 2) pe_int (nomark _)) (pw_and1 (pt_cmpR op_ge (pe_ix ix_tup (pv 0) (pe_op op_sub (pv 2) pe_int) (fun _ _ => rfl)) (pe_ix ix_tup (pv 0) (pv 2) (fun _ _ => rfl)) (nomark _))))))))
          (pss_one (ps_ret pe_bl))
          pss_nil)))
      (pss_one (ps_ret pe_bl)))), ?_⟩
    refine ⟨_, rfl, _, rfl, a, _, 0, many, rfl, hx, _, rfl, ?_⟩
    rw [List.length_map, show (decide ((0 : Int) ≤ ns.length) && decide ((ns.length : Int) ≤ many)) = true by rw [decide_eq_true (by omega), decide_eq_true hl] <;> rfl]
    refine iteF ⟨_, rfl, a, _, rfl, .inr hx, _, rfl, by omega, by rw [List.length_map]; omega, for_range (lo := 0) (n := (((ns.map V.int).length : Nat) : Int).toNat) (fun i σ H' => ∃ y, σ = [some (.ref a), some (.int many), y] ∧ H' = H) ⟨_, rfl, rfl⟩ ?_ ?_⟩
    · rintro i σ H1 hi ⟨y, rfl, rfl⟩
      rw [Int.toNat_natCast, List.length_map] at hi
      have g : (ns.map V.int)[i]? = some (.int ns[i]) := get_map (List.getElem?_eq_getElem hi)
      have hb := hr1.2 ns[i] (List.getElem_mem hi)
      refine ⟨_, rfl, _, rfl, a, _, _, _, rfl, rfl, hx, at_of (Int.zero_add _) g, _, rfl, _, 0, many, rfl, _, rfl, ?_⟩
      rw [decide_eq_true hb.1, decide_eq_true hb.2]
      refine iteF ⟨_, rfl, _, _, rfl, rfl, _, rfl, ite2 (fun e => ?_) (fun e => ?_)⟩
      · have i0 : 0 < i := by
          have := of_decide_eq_true e
          omega
        have hi1 : i - 1 < ns.length := by omega
        have g1 : (ns.map V.int)[i - 1]? = some (.int ns[i - 1]) := get_map (List.getElem?_eq_getElem hi1)
        have lt := (List.pairwise_iff_getElem.mp hr1.1) (i - 1) i hi1 hi (by omega)
        refine ⟨_, rfl, _, rfl, _, _, rfl, rfl, a, _, _, _, rfl, rfl, hx, at_of (by show 0 + (i : Int) - 1 = ((i - 1 : Nat) : Int); omega) g1, _, rfl, _, rfl, a, _, _, _, rfl, rfl, hx, at_of (Int.zero_add _) g, _, _, rfl, rfl, _, rfl, ?_⟩
        rw [decide_eq_false (by omega)]
        exact iteF ⟨_, rfl, rfl⟩
      · exact iteF ⟨_, rfl, rfl⟩
    · rintro σ H1 ⟨y, rfl, rfl⟩
      exact q
end

/-! ### the law's own search, its chain, the law -/
theorem Srch.look' {steps : List (List Int)} {s x : Int} {F W0 W : List Int} (S : Srch steps s F W0) (h1 : ∀ y ∈ W0, y ∈ W ∨ y = x) (h2 : ∀ y ∈ W, y ∈ W0) (hx : x ∈ F) (hl : W.length ≤ F.length) (row : List Int) : Look steps s x row 0 F W :=
  ⟨S.nd, S.s0, S.re, S.bd, fun y hy => S.ww y (h2 y hy), hl, hx, fun y hy hn hne u hu => S.cl y hy (fun z => by
    rcases h1 y z with z | z
    · exact hn z
    · exact hne z) u hu, fun u hu => by simp at hu⟩
theorem Each.set {α : Type} {R : Addr → α → Prop} {b : Addr} {y : α} (r : R b y) : ∀ {as : List Addr} {xs : List α} (i : Nat), Each R as xs → Each R (as.set i b) (xs.set i y)
  | _, _, _, .nil => .nil
  | _, _, 0, .cons _ t => .cons r t
  | _, _, i + 1, .cons h t => .cons h (t.set r i)
theorem each_rep {α : Type} {R : Addr → α → Prop} {b : Addr} {y : α} (r : R b y) : ∀ n : Nat, Each R (List.replicate n b) (List.replicate n y)
  | 0 => .nil
  | n + 1 => .cons r (each_rep r n)
theorem rise_one {many : Nat} {x : Int} (h0 : 0 ≤ x) (h1 : x < many) : RiseI many [x] := ⟨List.pairwise_singleton _ _, fun n hn => by
  have : n = x := by simpa using hn
  omega⟩
theorem set_mem {α : Type} {xs : List α} {i : Nat} {y z : α} (h : z ∈ xs.set i y) : z ∈ xs ∨ z = y := List.mem_or_eq_of_mem_set h
abbrev s_law_chain : Stmt := topS 12
theorem sc_law_chain : FnScope ["_law_pool_here", "_law_machine", "_law_many", "_law_steps", "_law_turn", "_law_k"] ["_law_pool_here", "_law_machine"] (defScope s_law_chain) := ⟨rfl, rfl, rfl, by decide +kernel, rfl, by decide +kernel, by decide +kernel⟩
abbrev s_law_right : Stmt := topS 14
theorem sc_law_right : FnScope ["_law_machine", "_law_standing", "_law_many", "_law_found", "_law_k"] ["_law_machine", "_law_standing"] (defScope s_law_right) := ⟨rfl, rfl, rfl, by decide +kernel, rfl, by decide +kernel, by decide +kernel⟩
abbrev slaw : Stmt := topS 15
theorem sclaw : FnScope ["_law_script", "_law_pool_here", "_law_row", "_law_machine", "_law_one", "_law_other"] ["_law_script"] (defScope slaw) := ⟨rfl, rfl, rfl, by decide +kernel, rfl, by decide +kernel, by decide +kernel⟩
section
variable {P : Program} {w : World} {K : PySem.W.Frag} {mg : Str → Option Value} {base : Heap}
def spLWalk (K : PySem.W.Frag) : Sp := fun vs H Q _ => ∃ (m : Addr) (steps : List (List Int)) (marks : List (List Str)) (s : Int), vs = [.ref m, .int s] ∧ MachAt K H m steps marks ∧ (∀ r ∈ steps, RiseI steps.length r) ∧ steps.length ≤ 60 ∧ 0 ≤ s ∧ s < steps.length ∧
  ∀ H' r ns, Same H H' → H' r = some (.lst (ns.map V.int)) → RiseI steps.length ns → (∀ t, t ∈ ns ↔ Reach steps s t) → Q (.ref r) H'
theorem ok_lwalk {f : Addr} {fd : FuncData} (F : Fun K "_law_walk" "_law_walk" s_law_walk f fd) (T : Bi mg) : FnOk P w K mg base CX0 1 f fd ["_law_machine", "_law_standing"] (spLWalk K) := by
  refine F.ok sc_law_walk (fun vs H Q E h => ?_) (fun cdv A outer s H vs Q E hr h => ?_)
  · obtain ⟨m, steps, marks, t, rfl, _⟩ := h
    rfl
  · obtain ⟨m, steps, marks, z, rfl, M, hb, hl, z0, z1, q⟩ := h
    obtain ⟨sA, kA, sa, ka, h1, h2, h3, h4, h5⟩ := M.ex
    have l1 := h4.len
    refine ⟨_, (pss_cons (ps_set (i := 2) sc_law_walk.nd rfl (.inl rfl) (pe_lst (pa_cons (pv 1) pa_nil)))
      (pss_cons (ps_set (i := 3) sc_law_walk.nd rfl (.inl rfl) pe_int)
      (pss_cons (ps_while PassesOwn.never (pt_cmpR op_lt (pv 3) (pe_callB call_len_seq (by rfl) T.len PySem.boot_len (pa_cons (pv 2) pa_nil)) (nomark _))
        (pss_cons (ps_for PassesOwn.never rfl (pi_tup (pe_ix ix_tup (pe_ix ix_tup (pv 0) pe_int (fun _ _ => rfl)) (pe_ix ix_list (pv 2) (pv 3) (fun _ _ => rfl)) (fun _ _ => rfl))) (pg_name (i := 4) sc_law_walk.nd rfl (.inl rfl))
          (pss_one (ps_if (pt_cmpR op_notIn_seq (pv 4) (pv 2) (by rfl))
            (pss_one (ps_expr (pe_bm PySem.F.plainAttrs_list PySem.F.slot_list_append PySem.F.type_list_append mt_append (pv 2) (pa_cons (pv 4) pa_nil))))
            pss_nil)))
        (pss_one (ps_set (i := 3) sc_law_walk.nd rfl (.inl rfl) (pe_op op_add (pv 3) pe_int)))))
      (pss_one (ps_ret (pe_callB cr_sorted (by rfl) T.sorted (by decide +kernel) (pa_cons (pv 2) pa_nil))))))), ?_⟩
    refine ⟨_, rfl, by show 1 ≤ sizeLine; decide, fun lf hlf => ⟨fun μ σ H' => ∃ (F : List Int) (at' : Nat) (y : Option V), σ = [some (.ref m), some (.int z), some (.ref lf), some (.int at'), y] ∧ H' lf = some (.lst (F.map V.int)) ∧ Same H H' ∧ at' ≤ F.length ∧ Srch steps z F (F.drop at') ∧ μ = steps.length - at',
      ⟨_, [z], 0, none, rfl, upd_same, same_upd hlf, Nat.zero_le _, Srch.start ⟨z0, z1⟩, rfl⟩, ?_⟩⟩
    rintro μ σ H1 ⟨F, at', y, rfl, f1, s1, ha, S, rfl⟩
    have lF := nodup_len S.nd S.bd
    refine ⟨_, rfl, _, rfl, lf, _, rfl, .inl (SqL.of f1), _, _, rfl, rfl, _, rfl, ?_⟩
    rw [List.length_map]
    refine ite2 (fun e => ?_) (fun e => ?_)
    · have hat : at' < F.length := by
        have := of_decide_eq_true e
        omega
      have ed : F.drop at' = F[at'] :: F.drop (at' + 1) := List.drop_eq_getElem_cons hat
      have fx : F[at'] ∈ F := List.getElem_mem hat
      have gx : (F.map V.int)[at']? = some (.int F[at']) := get_map (List.getElem?_eq_getElem hat)
      obtain ⟨b0, b1⟩ := S.bd _ fx
      have LK : ∀ row, Look steps z F[at'] row 0 F (F.drop (at' + 1)) := S.look' (W := F.drop (at' + 1)) (x := F[at']) (fun y hy => by
        rw [ed] at hy
        rcases List.mem_cons.mp hy with hy | hy
        · exact .inr hy
        · exact .inl hy) (fun y hy => by rw [ed]; exact List.mem_cons_of_mem _ hy) fx (by rw [List.length_drop]; omega)
      generalize F[at'] = x at ed fx gx b0 b1 LK
      obtain ⟨jx, rfl⟩ : ∃ j : Nat, x = (j : Int) := ⟨x.toNat, by omega⟩
      obtain ⟨row, hrow⟩ : ∃ row, steps[jx]? = some row := ⟨_, List.getElem?_eq_getElem (by omega)⟩
      obtain ⟨b, hb1, hb2⟩ := h4.getx hrow
      have hrow' : steps[((jx : Int)).toNat]? = some row := by rw [Int.toNat_natCast]; exact hrow
      refine ⟨fun σ' H' => ∃ μ', μ' < steps.length - at' ∧ ∃ (F : List Int) (at' : Nat) (y : Option V), σ' = [some (.ref m), some (.int z), some (.ref lf), some (.int at'), y] ∧ H' lf = some (.lst (F.map V.int)) ∧ Same H H' ∧ at' ≤ F.length ∧ Srch steps z F (F.drop at') ∧ μ' = steps.length - at', fun σ' H' h => h, ?_⟩
      refine ⟨_, rfl, m, _, 0, .ref sA, rfl, rfl, ssqt s1 h1, at_of (j := 0) rfl rfl, _, rfl, _, rfl, lf, _, _, _, rfl, rfl, SqL.of f1, atI_nat gx, sA, _, _, .ref b, rfl, rfl, ssqt s1 h2, at_of (j := jx) rfl (get_map hb1), b, rfl, ⟨_, ssqt s1 hb2⟩,
        for_tup (K := K) (a := b) (xs := row.map V.int) (fun i σ H' => ∃ (F2 : List Int) (y : Option V), σ = [some (.ref m), some (.int z), some (.ref lf), some (.int at'), y] ∧ H' lf = some (.lst (F2.map V.int)) ∧ Same H H' ∧ at' + 1 ≤ F2.length ∧ Look steps z jx row i F2 (F2.drop (at' + 1)))
          ⟨F, y, rfl, f1, s1, hat, LK row⟩ (fun i σ H' _ ⟨_, _, _, _, e, _⟩ => ssqt e hb2) ?_ ?_⟩
      · rintro i u σ H3 hi ⟨F2, y2, rfl, g1, s3, l2, L⟩
        obtain ⟨t, ht, rfl⟩ := map_get hi
        refine ⟨_, rfl, _, rfl, lf, _, rfl, .inl (SqL.of g1), rfl, flat_int _, _, rfl, ?_⟩
        rw [inV_int]
        refine ite2 (fun e => ?_) (fun e => ?_)
        · have nt := notdec e
          have L' := L.new hrow' hb ht nt
          have lF2 := nodup_len L.nd L.bd
          refine ⟨_, rfl, .inl ⟨rfl, _, SqL.of g1⟩, _, rfl, lf, _, _, rfl, rfl, g1, szLt (by rw [List.length_map]; omega), F2 ++ [t], some (.int t), rfl, ?_, smut s3 hlf, ?_, ?_⟩
          · rw [upd_same, List.map_append]
            rfl
          · rw [List.length_append]
            exact Nat.le_add_right_of_le l2
          · rw [List.drop_append_of_le_length l2]
            exact L'
        · exact ⟨F2, some (.int t), rfl, g1, s3, l2, L.yes ht (dec_of e)⟩
      · rintro σ H3 ⟨F2, y2, rfl, g1, s3, l2, L⟩
        rw [List.length_map] at L
        have lF2 := nodup_len L.nd L.bd
        exact ⟨_, rfl, _, _, rfl, rfl, steps.length - (at' + 1), by omega, F2, at' + 1, y2, rfl, g1, s3, l2, L.fin hrow', rfl⟩
    · have hat : at' = F.length := by
        have : ¬ (at' : Int) < F.length := fun z => e (decide_eq_true z)
        omega
      subst hat
      rw [List.drop_length] at S
      refine ⟨_, rfl, lf, F, rfl, SqL.of f1, by omega, fun ys p pm so hp => ?_⟩
      obtain ⟨e1, e2⟩ := S.done pm so
      exact q _ p ys (s1.trans (same_upd hp)) upd_same e1 e2
def spChain (K : PySem.W.Frag) : Sp := fun vs H Q _ => ∃ (a : PA) (c : Nat) (m : Addr) (steps : List (List Int)) (marks : List (List Str)), vs = [.ref a.p, .ref m] ∧ Pool H a c ∧ c < 900000 ∧ MachAt K H m steps marks ∧ GoodMach steps marks ∧
  ∀ (H' : Hp) (m' : Addr) (steps' : List (List Int)), Pool H' a (c + 3) → Kp a H H' → MachAt K H' m' steps' marks → GoodMach steps' marks → Q (.ref m') H'
theorem ok_chain {f : Addr} {fd : FuncData} (F : Fun K "_law_chain" "_law_chain" s_law_chain f fd) (T : Bi mg) (c_law_draw : Cal P w K mg base 1 "_law_draw" ["_law_pool_here", "_law_many"] spDraw) : FnOk P w K mg base CX0 2 f fd ["_law_pool_here", "_law_machine"] (spChain K) := by
  refine F.ok sc_law_chain (fun vs H Q E h => ?_) (fun cdv A outer s H vs Q E hr h => ?_)
  · obtain ⟨a, c, m, steps, marks, rfl, _⟩ := h
    rfl
  · obtain ⟨a, c, m, steps, marks, rfl, PP, hc, M, GM, q⟩ := h
    obtain ⟨sA, kA, sa, ka, h1, h2, h3, h4, h5⟩ := M.ex
    have l1 := h4.len
    have g1 := GM.len
    have g2 := GM.lo
    have g3 := GM.hi
    refine ⟨_, (pss_cons (ps_set (i := 2) sc_law_chain.nd rfl (.inl rfl) (pe_callB call_len_seq (by rfl) T.len PySem.boot_len (pa_cons (pe_ix ix_tup (pv 1) pe_int (fun _ _ => rfl)) pa_nil)))
      (pss_cons (ps_set (i := 3) sc_law_chain.nd rfl (.inl rfl) (pe_op op_rep (pe_lst (pa_cons (pe_tup pa_nil) pa_nil)) (pv 2)))
      (pss_cons (ps_set (i := 4) sc_law_chain.nd rfl (.inl rfl) (pe_call c_law_draw.G hr (by rfl) c_law_draw.g c_law_draw.kp c_law_draw.b .nil pass0 (pa_cons (pv 0) (pa_cons pe_int pa_nil))))
      (pss_cons (ps_for PassesOwn.never rfl (pi_range1 (by rfl) T.range (pa_cons (pe_op op_sub (pv 2) pe_int) pa_nil)) (pg_name (i := 5) sc_law_chain.nd rfl (.inl rfl))
        (pss_one (ps_if (pt_cmpR op_eq (pv 4) pe_int (nomark _))
          (pss_one (ps_asg (pe_tup (pa_cons (pe_op op_add (pv 5) pe_int) pa_nil)) (pg_sub (pv 3) (pv 5) set_list)))
          (pss_one (ps_asg (pe_tup (pa_cons (pv 5) pa_nil)) (pg_sub (pv 3) (pe_op op_add (pv 5) pe_int) set_list))))))
      (pss_cons (ps_asg (pe_tup (pa_cons (pe_call c_law_draw.G hr (by rfl) c_law_draw.g c_law_draw.kp c_law_draw.b .nil pass0 (pa_cons (pv 0) (pa_cons (pv 2) pa_nil))) pa_nil)) (pg_sub (pv 3) (pe_call c_law_draw.G hr (by rfl) c_law_draw.g c_law_draw.kp c_law_draw.b .nil pass0 (pa_cons (pv 0) (pa_cons (pv 2) pa_nil))) set_list))
      (pss_one (ps_ret (pe_tup (pa_cons (pe_callTy call_tuple_of (by rfl) T.tuple (by decide +kernel) (pa_cons (pv 3) pa_nil)) (pa_cons (pe_ix ix_tup (pv 1) pe_int (fun _ _ => rfl)) pa_nil)))))))))), ?_⟩
    refine ⟨_, rfl, m, _, 0, .ref sA, rfl, rfl, h1, at_of (j := 0) rfl rfl, sA, _, rfl, .inr h2, ?_⟩
    refine ⟨Nat.zero_le _, fun e he => ⟨by show 1 ≤ sizeLine; decide, fun d hd => ⟨_, rfl, d, _, _, rfl, rfl, upd_same, by omega, by rw [List.length_map]; omega, szOk (by rw [List.length_map]; show 1 * _ ≤ _; omega), fun l hl => ?_⟩⟩⟩
    rw [List.length_map, l1]
    have sE : Same H (L2.upd (L2.upd (L2.upd H e (.tup [])) d (.lst [.ref e])) l (.lst (List.replicate ((steps.length : Int)).toNat [V.ref e]).flatten)) := ((same_upd he).trans (same_upd hd)).trans (same_upd hl)
    have hl0 : H l = none := by
      have n1 : l ≠ d := fun z => by
        rw [z, upd_same] at hl
        cases hl
      have n2 : l ≠ e := fun z => by
        rw [z, upd_ne (ne_of_none upd_same hd), upd_same] at hl
        cases hl
      rw [upd_ne n1, upd_ne n2] at hl
      exact hl
    have ol : Off a l := PP.off hl0
    have eF : (List.replicate ((steps.length : Int)).toNat [V.ref e]).flatten = (List.replicate steps.length e).map V.ref := by
      rw [Int.toNat_natCast]
      generalize steps.length = n
      induction n with
      | zero => rfl
      | succ n ih =>
        rw [List.replicate_succ, List.replicate_succ, List.flatten_cons, ih]
        rfl
    have gl : L2.upd (L2.upd (L2.upd H e (.tup [])) d (.lst [.ref e])) l (.lst (List.replicate ((steps.length : Int)).toNat [V.ref e]).flatten) l = some (.lst ((List.replicate steps.length e).map V.ref)) := by
      rw [upd_same, eF]
    have ge : SqT K (L2.upd (L2.upd (L2.upd H e (.tup [])) d (.lst [.ref e])) l (.lst (List.replicate ((steps.length : Int)).toNat [V.ref e]).flatten)) e (([] : List Int).map V.int) := SqT.of (((same_upd hd).trans (same_upd hl)) _ _ (show L2.upd H e (.tup []) e = some (.tup []) from upd_same))
    generalize L2.upd (L2.upd (L2.upd H e (.tup [])) d (.lst [.ref e])) l (.lst (List.replicate ((steps.length : Int)).toNat [V.ref e]).flatten) = H1 at sE gl ge ⊢
    -- turn
    refine ⟨_, rfl, a, c, 2, rfl, PP.same sE, by omega, by decide, by decide, fun H2 turn _ _ P2 k2 => ?_⟩
    have kH : Kp a H H2 := (skp sE).trans k2
    have i12 := (PP.same sE).imm k2
    refine ⟨_, rfl, _, _, rfl, rfl, (steps.length : Int) - 1, rfl, by omega, by omega, for_range (lo := 0) (n := ((steps.length : Int) - 1).toNat) (fun i σ H' => ∃ (xs : List Addr) (rows : List (List Int)) (y : Option V), σ = [some (.ref a.p), some (.ref m), some (.int steps.length), some (.ref l), some (.int turn), y] ∧ H' l = some (.lst (xs.map V.ref)) ∧
      Each (fun b r => SqT K H' b (r.map V.int)) xs rows ∧ rows.length = steps.length ∧ (∀ r ∈ rows, RiseI steps.length r) ∧ Pool H' a (c + 1) ∧ Kp a H H') ⟨_, _, none, rfl, k2 _ _ gl ol, each_rep (R := fun b (r : List Int) => SqT K H2 b (r.map V.int)) (i12.sq ge) steps.length, List.length_replicate, fun r hr => ?_, P2, kH⟩ ?_ ?_⟩
    · rw [List.eq_of_mem_replicate hr]
      exact ⟨List.Pairwise.nil, fun _ h => absurd h List.not_mem_nil⟩
    · rintro i σ H3 hi ⟨xs, rows, y, rfl, f1, f2, f3, f4, P3, k3⟩
      have lx := f2.len
      -- one store
      have store : ∀ (j : Nat) (x : Int), j < steps.length → 0 ≤ x → x < steps.length → ∀ t, H3 t = none → ∃ (xs' : List Addr) (rows' : List (List Int)) (y' : Option V), [some (.ref a.p), some (.ref m), some (.int steps.length), some (.ref l), some (.int turn), some (V.int (0 + (i : Int)))] = [some (.ref a.p), some (.ref m), some (.int steps.length), some (.ref l), some (.int turn), y'] ∧
          L2.upd (L2.upd H3 t (.tup [.int x])) l (.lst ((xs.map V.ref).set j (.ref t))) l = some (.lst (xs'.map V.ref)) ∧ Each (fun b r => SqT K (L2.upd (L2.upd H3 t (.tup [.int x])) l (.lst ((xs.map V.ref).set j (.ref t)))) b (r.map V.int)) xs' rows' ∧ rows'.length = steps.length ∧ (∀ r ∈ rows', RiseI steps.length r) ∧
          Pool (L2.upd (L2.upd H3 t (.tup [.int x])) l (.lst ((xs.map V.ref).set j (.ref t)))) a (c + 1) ∧ Kp a H (L2.upd (L2.upd H3 t (.tup [.int x])) l (.lst ((xs.map V.ref).set j (.ref t)))) := by
        intro j x hj x0 x1 t ht
        have sT : Same H3 (L2.upd H3 t (.tup [.int x])) := same_upd ht
        have tl : t ≠ l := (ne_of_none f1 ht).symm
        have e9 : Imm H3 (L2.upd (L2.upd H3 t (.tup [.int x])) l (.lst ((xs.map V.ref).set j (.ref t)))) := (simm sT).trans (Imm.list (sT _ _ f1))
        refine ⟨xs.set j t, rows.set j [x], _, rfl, by rw [upd_same, List.map_set], (f2.imp fun _ _ h => e9.sq h).set (b := t) (y := [x]) (SqT.of (by rw [upd_ne tl, upd_same]; rfl)) j, by rw [List.length_set]; exact f3, fun r hr => ?_, (P3.same sT).upd ol, (k3.trans (skp sT)).mut hl0⟩
        rcases set_mem hr with hr | hr
        · exact f4 r hr
        · rw [hr]
          exact rise_one x0 x1
      refine ⟨_, rfl, rfl, _, rfl, ite2 (fun _ => ?_) (fun _ => ?_)⟩
      · refine ⟨_, rfl, _, _, rfl, rfl, by show 1 ≤ sizeLine; decide, fun t ht => ⟨_, rfl, _, rfl, l, _, _, i, rfl, rfl, (same_upd ht) _ _ f1, ?_, store i (0 + (i : Int) + 1) (by omega) (by omega) (by omega) t ht⟩⟩
        rw [Int.zero_add]
        exact ixN_nat (by rw [List.length_map]; omega)
      · refine ⟨_, rfl, by show 1 ≤ sizeLine; decide, fun t ht => ⟨_, rfl, _, rfl, _, _, rfl, rfl, l, _, _, i + 1, rfl, rfl, (same_upd ht) _ _ f1, ?_, store (i + 1) (0 + (i : Int)) (by omega) (by omega) (by omega) t ht⟩⟩
        show ixN _ (0 + (i : Int) + 1) = some (i + 1)
        rw [show 0 + (i : Int) + 1 = ((i + 1 : Nat) : Int) by omega]
        exact ixN_nat (by rw [List.length_map]; omega)
    · rintro σ H3 ⟨xs, rows, y, rfl, f1, f2, f3, f4, P3, k3⟩
      have lx := f2.len
      refine ⟨_, rfl, _, rfl, a, _, steps.length, rfl, P3, by omega, by omega, by omega, fun H4 x x0 x1 P4 k4 => ⟨by show 1 ≤ sizeLine; decide, fun t ht => ?_⟩⟩
      have sT : Same H4 (L2.upd H4 t (.tup [.int x])) := same_upd ht
      refine ⟨_, rfl, _, rfl, _, rfl, a, _, steps.length, rfl, P4.same sT, by omega, by omega, by omega, fun H5 jx j0 j1 P5 k5 => ?_⟩
      obtain ⟨j, rfl⟩ : ∃ j : Nat, jx = (j : Int) := ⟨jx.toNat, by omega⟩
      have f5 := k5 _ _ (sT _ _ (k4 _ _ f1 ol)) ol
      have ot : Off a t := P4.off ht
      have ft := k5 _ _ (show L2.upd H4 t (.tup [.int x]) t = some (.tup [.int x]) from upd_same) ot
      have tl : t ≠ l := (ne_of_none (k4 _ _ f1 ol) ht).symm
      have i35 : Imm H3 H5 := ((P3.imm k4).trans (simm sT)).trans ((P4.same sT).imm k5)
      refine ⟨l, _, _, j, rfl, rfl, f5, ixN_nat (by rw [List.length_map]; omega), ?_⟩
      have e9 : Imm H5 (L2.upd H5 l (.lst ((xs.map V.ref).set j (.ref t)))) := Imm.list f5
      have f6 : L2.upd H5 l (.lst ((xs.map V.ref).set j (.ref t))) l = some (.lst ((xs.set j t).map V.ref)) := by rw [upd_same, List.map_set]
      have f7 := (f2.imp fun _ _ h => (i35.trans e9).sq h).set (b := t) (y := [x]) (SqT.of (by rw [upd_ne tl]; exact ft)) j
      have k6 : Kp a H (L2.upd H5 l (.lst ((xs.map V.ref).set j (.ref t)))) := (((k3.trans k4).trans (skp sT)).trans k5).mut hl0
      have P6 := P5.upd (o := .lst ((xs.map V.ref).set j (.ref t))) ol
      have i06 : Imm H (L2.upd H5 l (.lst ((xs.map V.ref).set j (.ref t)))) := PP.imm k6
      generalize L2.upd H5 l (.lst ((xs.map V.ref).set j (.ref t))) = H6 at f6 f7 k6 P6 i06 ⊢
      -- the pair
      refine ⟨_, rfl, l, _, rfl, .inl ⟨SqL.of f6, fun s' hs' => ?_⟩⟩
      have s7 : Same H6 (L2.upd H6 s' (.tup ((xs.set j t).map V.ref))) := same_upd hs'
      refine ⟨_, rfl, m, _, 1, .ref kA, rfl, rfl, ssqt s7 (i06.sq h1), at_of (j := 1) rfl rfl, by show 2 ≤ sizeLine; decide, fun m' hm' => ?_⟩
      have s8 := s7.trans (same_upd (o := .tup [.ref s', .ref kA]) hm')
      have ns : s' ≠ m' := ne_of_none (show L2.upd H6 s' (.tup ((xs.set j t).map V.ref)) s' = _ from upd_same) hm'
      have lr : (rows.set j [x]).length = steps.length := by rw [List.length_set]; exact f3
      refine q _ m' (rows.set j [x]) ((P6.same s8).mono (by omega)) (k6.trans (skp s8)) ⟨s', kA, xs.set j t, ka, SqT.of upd_same, SqT.of (by rw [upd_ne ns, upd_same]), ssqt s8 (i06.sq h3), f7.imp fun _ _ h => ssqt s8 h, h5.imp fun _ _ h => ssqt s8 (i06.sq h)⟩ ⟨by omega, by omega, by omega, fun r hr => ?_, GM.mr⟩
      rw [lr]
      rcases set_mem hr with hr | hr
      · exact f4 r hr
      · rw [hr]
        exact rise_one x0 x1
def spRight (K : PySem.W.Frag) : Sp := fun vs H Q _ => ∃ (m : Addr) (steps : List (List Int)) (marks : List (List Str)) (s : Int), vs = [.ref m, .int s] ∧ MachAt K H m steps marks ∧ GoodMach steps marks ∧ 0 ≤ s ∧ s < steps.length ∧ ∀ H', Same H H' → Q (.bl true) H'
theorem ok_right {f : Addr} {fd : FuncData} (F : Fun K "_law_right" "_law_right" s_law_right f fd) (T : Bi mg) (cbehind : Cal P w K mg base 1 "behind" ["machine", "standing"] (spBehind K)) (creached : Cal P w K mg base 1 "reached" ["machine", "standing"] (spReached K))
    (c_law_good_set : Cal P w K mg base 2 "_law_good_set" ["_law_thing", "_law_many"] (spLSet K)) (c_law_walk : Cal P w K mg base 1 "_law_walk" ["_law_machine", "_law_standing"] (spLWalk K)) : FnOk P w K mg base CX0 3 f fd ["_law_machine", "_law_standing"] (spRight K) := by
  refine F.ok sc_law_right (fun vs H Q E h => ?_) (fun cdv A outer s H vs Q E hr h => ?_)
  · obtain ⟨m, steps, marks, t, rfl, _⟩ := h
    rfl
  · obtain ⟨m, steps, marks, z, rfl, M, GM, z0, z1, q⟩ := h
    obtain ⟨sA, kA, sa, ka, h1, h2, h3, h4, h5⟩ := M.ex
    have l1 := h4.len
    have g3 := GM.hi
    refine ⟨_, (pss_cons (ps_set (i := 2) sc_law_right.nd rfl (.inl rfl) (pe_callB call_len_seq (by rfl) T.len PySem.boot_len (pa_cons (pe_ix ix_tup (pv 0) pe_int (fun _ _ => rfl)) pa_nil)))
      (pss_cons (ps_set (i := 3) sc_law_right.nd rfl (.inl rfl) (pe_call cbehind.G (hr.mono (by decide)) (by rfl) cbehind.g cbehind.kp cbehind.b .nil pass0 (pa_cons (pv 0) (pa_cons (pv 1) pa_nil))))
      (pss_cons (ps_if (pt_not (pt_val (pe_call c_law_good_set.G hr (by rfl) c_law_good_set.g c_law_good_set.kp c_law_good_set.b .nil pass0 (pa_cons (pv 3) (pa_cons (pv 2) pa_nil)))))
        (pss_one (ps_ret pe_bl))
        pss_nil)
      (pss_cons (ps_if (pt_cmpR (op_neD hr.units) (pe_callTy call_list_of (by rfl) T.list (by decide +kernel) (pa_cons (pv 3) pa_nil)) (pe_lc (own := [("_law_k", 4)]) (g := gName 4) rfl sc_law_right.nd (pi_range1 (by rfl) T.range (pa_cons (pv 2) pa_nil)) (blkOk_by (own := [("_law_k", 4)]) (N := ["_law_machine", "_law_standing", "_law_many", "_law_found", "_law_k"]) (sc := defScope s_law_right) (by decide +kernel)) (fun _ _ _ _ _ => (pg_name (i := 4) sc_law_right.nd rfl (.inl rfl))) (fun _ _ _ _ _ => (pts_one (pt_cmpR (inS K) (pv 1) (pe_ix (ixT K) (pe_ix (ixT K) (pv 0) pe_int (fun _ _ => rfl)) (pv 4) (fun _ _ => rfl)) (by rfl)))) (fun _ _ _ _ _ => (pv 4))) (nomark _))
        (pss_one (ps_ret pe_bl))
        pss_nil)
      (pss_cons (ps_set (i := 3) sc_law_right.nd rfl (.inl rfl) (pe_call creached.G (hr.mono (by decide)) (by rfl) creached.g creached.kp creached.b .nil pass0 (pa_cons (pv 0) (pa_cons (pv 1) pa_nil))))
      (pss_one (ps_ret (pe_and (pe_call c_law_good_set.G hr (by rfl) c_law_good_set.g c_law_good_set.kp c_law_good_set.b .nil pass0 (pa_cons (pv 3) (pa_cons (pv 2) pa_nil))) (pe_one (pe_cmpR (op_eqD hr.units) (pe_callTy call_list_of (by rfl) T.list (by decide +kernel) (pa_cons (pv 3) pa_nil)) (pe_call c_law_walk.G (hr.mono (by decide)) (by rfl) c_law_walk.g c_law_walk.kp c_law_walk.b .nil pass0 (pa_cons (pv 0) (pa_cons (pv 1) pa_nil))) (nomark _))))))))))), ?_⟩
    refine ⟨_, rfl, m, _, 0, .ref sA, rfl, rfl, h1, at_of (j := 0) rfl rfl, sA, _, rfl, .inr h2, ?_⟩
    rw [List.length_map, l1]
    refine ⟨_, rfl, _, rfl, m, steps, marks, z, rfl, M, by omega, fun H1 r s1 hr1 => ?_⟩
    have pr : RiseI steps.length (behindOf steps z steps.length) := pick_rise _ _
    have pl : (behindOf steps z steps.length).length ≤ steps.length := pick_len _ _
    refine ⟨_, rfl, _, rfl, r, _, _, rfl, SqT.of hr1, pr, by omega, by omega, _, rfl, iteF ?_⟩
    -- list(found) != [..]
    refine ⟨_, rfl, r, _, rfl, .inr (SqT.of hr1), fun l hl => ⟨_, rfl, _, rfl, by omega, by omega, fun D hD => ?_⟩⟩
    have s2 : Same H1 (L2.upd H1 l (.lst ((behindOf steps z steps.length).map V.int))) := same_upd hl
    have hl2 : L2.upd H1 l (.lst ((behindOf steps z steps.length).map V.int)) l = some (.lst ((behindOf steps z steps.length).map V.int)) := upd_same
    generalize L2.upd H1 l (.lst ((behindOf steps z steps.length).map V.int)) = H2 at s2 hl2 hD ⊢
    have s02 := s1.trans s2
    rw [Int.toNat_natCast]
    refine lc_rangeS (fun i acc => acc = (behindOf steps z i).map V.int) hD (by omega) rfl (fun _ => rfl) ?_ ?_
    · intro j H3 acc hj s3 hacc _ N1 N2 k1 k2
      subst hacc
      have s03 := s02.trans s3
      obtain ⟨row, hrow⟩ : ∃ row, steps[j]? = some row := ⟨_, List.getElem?_eq_getElem hj⟩
      obtain ⟨b, hb1, hb2⟩ := h4.getx hrow
      have eg : steps.getD j [] = row := by rw [List.getD_eq_getElem?_getD, hrow] <;> rfl
      refine ⟨_, rfl, _, rfl, m, _, 0, .ref sA, rfl, rfl, ssqt s03 h1, at_of (j := 0) rfl rfl, _, rfl, sA, _, _, .ref b, rfl, rfl, ssqt s03 h2, at_of (Int.zero_add _) (get_map hb1), b, _, rfl, .inr (ssqt s03 hb2), rfl, flat_int _, _, rfl, ?_⟩
      rw [inV_int]
      refine ite2 (fun e => ?_) (fun e => ?_)
      · refine ⟨_, rfl, k1 _ _ (Same.refl _) ?_⟩
        unfold behindOf
        rw [pick_yes (by rw [eg]; exact e), List.map_append, Int.zero_add]
        rfl
      · refine k2 _ (Same.refl _) ?_
        unfold behindOf
        rw [pick_no (by rw [eg]; simpa using e)]
    · intro H3 acc s3 hD3 _ hacc
      subst hacc
      have s03 := s02.trans s3
      refine ⟨_, _, dp_ints (SqL.of (s3 _ _ hl2)), dp_ints (SqL.of hD3), shaped_ints _, shaped_ints _, _, rfl, ?_⟩
      rw [eqv_ints, decide_eq_true rfl]
      refine iteF ⟨_, rfl, _, rfl, m, steps, marks, z, rfl, M.imm (simm s03), GM.st, by omega, z0, z1, fun H4 r2 ns s4 hr4 rs re => ?_⟩
      have s04 := s03.trans s4
      have rl := rise_len rs (by omega)
      refine ⟨_, rfl, _, rfl, r2, ns, _, rfl, SqT.of hr4, rs, by omega, by omega, true, rfl, iteT ?_⟩
      refine ⟨_, rfl, r2, _, rfl, .inr (SqT.of hr4), fun l3 hl3 => ⟨_, rfl, _, rfl, m, steps, marks, z, rfl, M.imm (simm (s04.trans (same_upd hl3))), GM.st, by omega, z0, z1, fun H6 r3 ms s6 hr6 rs2 re2 => ?_⟩⟩
      have e : ns = ms := rise_ext rs.1 rs2.1 fun t => (re t).trans (re2 t).symm
      subst e
      refine ⟨_, _, dp_ints (SqL.of (s6 _ _ upd_same)), dp_ints (SqL.of hr6), shaped_ints _, shaped_ints _, ?_⟩
      rw [eqv_ints, decide_eq_true rfl]
      exact q _ ((s04.trans (same_upd hl3)).trans s6)
def spLaw (K : PySem.W.Frag) : Sp := fun vs H Q _ => ∃ (l : Addr) (ns : List Int), vs = [.ref l] ∧ SqL K H l (ns.map V.int) ∧ ns.length ≤ 63 ∧ ∀ H', Q (.bl true) H'
theorem ok_law {f : Addr} {fd : FuncData} (F : Fun K "law" "law" slaw f fd) (T : Bi mg) (c_law_pool : Cal P w K mg base 1 "_law_pool" ["_law_script"] (spPool K)) (c_law_draw : Cal P w K mg base 1 "_law_draw" ["_law_pool_here", "_law_many"] spDraw) (c_law_names : Cal P w K mg base 3 "_law_names" ["_law_pool_here", "_law_many"] spLNames)
    (c_law_great_machine : Cal P w K mg base 2 "_law_great_machine" ["_law_pool_here", "_law_names_here"] (spGreat K)) (c_law_chain : Cal P w K mg base 2 "_law_chain" ["_law_pool_here", "_law_machine"] (spChain K)) (c_law_right : Cal P w K mg base 3 "_law_right" ["_law_machine", "_law_standing"] (spRight K)) :
    FnOk P w K mg base CX0 4 f fd ["_law_script"] (spLaw K) := by
  refine F.ok sclaw (fun vs H Q E h => ?_) (fun cdv A outer s H vs Q E hr h => ?_)
  · obtain ⟨l, ns, rfl, _⟩ := h
    rfl
  · obtain ⟨l, ns, rfl, hS, hlen, q⟩ := h
    refine ⟨_, (pss_cons (ps_set (i := 1) sclaw.nd rfl (.inl rfl) (pe_call c_law_pool.G (hr.mono (by decide)) (by rfl) c_law_pool.g c_law_pool.kp c_law_pool.b .nil pass0 (pa_cons (pv 0) pa_nil)))
      (pss_cons (ps_set (i := 2) sclaw.nd rfl (.inl rfl) (pe_cmpR op_eq (pe_call c_law_draw.G (hr.mono (by decide)) (by rfl) c_law_draw.g c_law_draw.kp c_law_draw.b .nil pass0 (pa_cons (pv 1) (pa_cons pe_int pa_nil))) pe_int (nomark _)))
      (pss_cons (ps_set (i := 3) sclaw.nd rfl (.inl rfl) (pe_call c_law_great_machine.G (hr.mono (by decide)) (by rfl) c_law_great_machine.g c_law_great_machine.kp c_law_great_machine.b .nil pass0 (pa_cons (pv 1) (pa_cons (pe_call c_law_names.G hr (by rfl) c_law_names.g c_law_names.kp c_law_names.b .nil pass0 (pa_cons (pv 1) (pa_cons (pe_call c_law_draw.G (hr.mono (by decide)) (by rfl) c_law_draw.g c_law_draw.kp c_law_draw.b .nil pass0 (pa_cons (pv 1) (pa_cons pe_int pa_nil))) pa_nil))) pa_nil))))
      (Evl.pss_cut (ps_if (pt_val (pv 2))
        (pss_one (ps_set (i := 3) sclaw.nd rfl (.inl rfl) (pe_call c_law_chain.G (hr.mono (by decide)) (by rfl) c_law_chain.g c_law_chain.kp c_law_chain.b .nil pass0 (pa_cons (pv 1) (pa_cons (pv 3) pa_nil)))))
        pss_nil)
      (pss_cons (ps_set (i := 4) sclaw.nd rfl (.inl rfl) (pe_call c_law_draw.G (hr.mono (by decide)) (by rfl) c_law_draw.g c_law_draw.kp c_law_draw.b .nil pass0 (pa_cons (pv 1) (pa_cons (pe_callB call_len_seq (by rfl) T.len PySem.boot_len (pa_cons (pe_ix ix_tup (pv 3) pe_int (fun _ _ => rfl)) pa_nil)) pa_nil))))
      (pss_cons (ps_set (i := 5) sclaw.nd rfl (.inl rfl) (pe_call c_law_draw.G (hr.mono (by decide)) (by rfl) c_law_draw.g c_law_draw.kp c_law_draw.b .nil pass0 (pa_cons (pv 1) (pa_cons (pe_callB call_len_seq (by rfl) T.len PySem.boot_len (pa_cons (pe_ix ix_tup (pv 3) pe_int (fun _ _ => rfl)) pa_nil)) pa_nil))))
      (pss_one (ps_ret (pe_and (pe_call c_law_right.G hr (by rfl) c_law_right.g c_law_right.kp c_law_right.b .nil pass0 (pa_cons (pv 3) (pa_cons (pv 4) pa_nil))) (pe_and (pe_call c_law_right.G hr (by rfl) c_law_right.g c_law_right.kp c_law_right.b .nil pass0 (pa_cons (pv 3) (pa_cons (pv 5) pa_nil))) (pe_one (pe_call c_law_right.G hr (by rfl) c_law_right.g c_law_right.kp c_law_right.b .nil pass0 (pa_cons (pv 3) (pa_cons (pv 4) pa_nil)))))))))))))), ?_⟩
    refine ⟨_, rfl, l, ns, rfl, hS, hlen, fun H1 a s1 P1 => ?_⟩
    refine ⟨_, rfl, a, 0, 4, rfl, P1, by omega, by decide, by decide, fun H2 r r0 r1 P2 k2 => ⟨rfl, ?_⟩⟩
    generalize decide (V.int r = V.int 0) = row
    refine ⟨_, rfl, _, rfl, _, rfl, a, _, 4, rfl, P2, by omega, by decide, by decide, fun H3 r3 r30 r31 P3 k3 => ⟨a, _, r3.toNat, ?_, P3, by omega, by omega, fun H4 ln zs P4 k4 hl4 ol4 nz gz lz => ?_⟩⟩
    · rw [show ((r3.toNat : Nat) : Int) = r3 by omega]
      rfl
    · refine ⟨a, _, ln, zs, rfl, P4, by omega, hl4, ol4, nz, gz, by omega, fun H5 m steps marks P5 k5 MA GM => ?_⟩
      refine ⟨fun σ H' => ∃ (m : Addr) (steps : List (List Int)) (marks : List (List Str)), σ = [some (.ref l), some (.ref a.p), some (.bl row), some (.ref m), none, none] ∧ Pool H' a 1000 ∧ MachAt K H' m steps marks ∧ GoodMach steps marks, ?_, ?_⟩
      · refine ⟨_, rfl, row, rfl, ite2 (fun _ => ?_) (fun _ => ?_)⟩
        · exact ⟨_, rfl, _, rfl, a, _, m, steps, marks, rfl, P5, by omega, MA, GM, fun H6 m' steps' P6 k6 MA' GM' => ⟨m', steps', marks, rfl, P6.mono (by omega), MA', GM'⟩⟩
        · exact ⟨m, steps, marks, rfl, P5.mono (by omega), MA, GM⟩
      · rintro σ H6 ⟨m, steps, marks, rfl, P6, MA, GM⟩
        obtain ⟨sA, kA, sa, ka, h1, h2, h3, h4, h5⟩ := MA.ex
        have l1 := h4.len
        have g2 := GM.lo
        have g3 := GM.hi
        refine ⟨_, rfl, _, rfl, m, _, 0, .ref sA, rfl, rfl, h1, at_of (j := 0) rfl rfl, sA, _, rfl, .inr h2, a, _, ((sa.map V.ref).length : Int), rfl, P6, by omega, by rw [List.length_map]; omega, by rw [List.length_map]; omega, fun H7 z z0 z1 P7 k7 => ?_⟩
        have i7 := P6.imm k7
        refine ⟨_, rfl, _, rfl, m, _, 0, .ref sA, rfl, rfl, i7.sq h1, at_of (j := 0) rfl rfl, sA, _, rfl, .inr (i7.sq h2), a, _, ((sa.map V.ref).length : Int), rfl, P7, by omega, by rw [List.length_map]; omega, by rw [List.length_map]; omega, fun H8 y y0 y1 P8 k8 => ?_⟩
        have MA8 := (MA.imm i7).imm (P7.imm k8)
        rw [List.length_map] at z1 y1
        refine ⟨_, rfl, _, rfl, m, steps, marks, z, rfl, MA8, GM, z0, by omega, fun H9 s9 => ⟨true, rfl, iteT ⟨_, rfl, _, rfl, m, steps, marks, y, rfl, MA8.imm (simm s9), GM, y0, by omega, fun H10 s10 => ⟨true, rfl, iteT ⟨_, rfl, _, rfl, m, steps, marks, z, rfl, MA8.imm (simm (s9.trans s10)), GM, z0, by omega, fun H11 s11 => q _⟩⟩⟩⟩⟩
end

/-! ### what the top has written; the law's own head -/
theorem all_mk {l : PySem.W.OpenLaw} {w : World} {K : PySem.W.Frag} {h : Heap} {mg : Str → Option Value} {fa f1 f2 f3 f4 f5 f6 f7 f8 f9 f10 f11 f12 f13 f14 : Addr} (X : K.In h) (G : h.Ns mainGlobals mg) (hfa : mg "law" = some (.ref fa))
    {od1 an1 od2 an2 od3 an3 od4 an4 od5 an5 od6 an6 od7 an7 od8 an8 od9 an9 od10 an10 od11 an11 od12 an12 od13 an13 od14 an14 : Option Addr} {sl1 sl2 sl3 sl4 sl5 sl6 sl7 sl8 sl9 sl10 sl11 sl12 sl13 sl14 : Array (Option Value)} {oc1 kV1 dc1 pm1 cd1 ct1 oc2 kV2 dc2 pm2 cd2 ct2 oc3 kV3 dc3 pm3 cd3 ct3 oc4 kV4 dc4 pm4 cd4 ct4 oc5 kV5 dc5 pm5 cd5 ct5 oc6 kV6 dc6 pm6 cd6 ct6 oc7 kV7 dc7 pm7 cd7 ct7 oc8 kV8 dc8 pm8 cd8 ct8 oc9 kV9 dc9 pm9 cd9 ct9 oc10 kV10 dc10 pm10 cd10 ct10 oc11 kV11 dc11 pm11 cd11 ct11 oc12 kV12 dc12 pm12 cd12 ct12 oc13 kV13 dc13 pm13 cd13 ct13 oc14 kV14 dc14 pm14 cd14 ct14 : Value}
    (a1 : PySem.W.nsIn K mainGlobals "behind" = some (some (.ref f1))) (l1 : K.lookup f1 = some ⟨oc1, od1, .func (PySem.W.fnOf "behind" "behind" (defArgs sbehind) (defBody sbehind) (defScope sbehind) .none kV1 dc1 pm1 an1 cd1 ct1), sl1⟩) (c1 : PySem.W.codeIn K cd1 "behind" = true) (k1 : PySem.W.keepIn K (.ref f1) = true)
    (a2 : PySem.W.nsIn K mainGlobals "reached" = some (some (.ref f2))) (l2 : K.lookup f2 = some ⟨oc2, od2, .func (PySem.W.fnOf "reached" "reached" (defArgs sreached) (defBody sreached) (defScope sreached) .none kV2 dc2 pm2 an2 cd2 ct2), sl2⟩) (c2 : PySem.W.codeIn K cd2 "reached" = true) (k2 : PySem.W.keepIn K (.ref f2) = true)
    (a3 : PySem.W.nsIn K mainGlobals "_law_pool" = some (some (.ref f3))) (l3 : K.lookup f3 = some ⟨oc3, od3, .func (PySem.W.fnOf "_law_pool" "_law_pool" (defArgs s_law_pool) (defBody s_law_pool) (defScope s_law_pool) .none kV3 dc3 pm3 an3 cd3 ct3), sl3⟩) (c3 : PySem.W.codeIn K cd3 "_law_pool" = true) (k3 : PySem.W.keepIn K (.ref f3) = true)
    (a4 : PySem.W.nsIn K mainGlobals "_law_draw" = some (some (.ref f4))) (l4 : K.lookup f4 = some ⟨oc4, od4, .func (PySem.W.fnOf "_law_draw" "_law_draw" (defArgs s_law_draw) (defBody s_law_draw) (defScope s_law_draw) .none kV4 dc4 pm4 an4 cd4 ct4), sl4⟩) (c4 : PySem.W.codeIn K cd4 "_law_draw" = true) (k4 : PySem.W.keepIn K (.ref f4) = true)
    (a5 : PySem.W.nsIn K mainGlobals "_law_name" = some (some (.ref f5))) (l5 : K.lookup f5 = some ⟨oc5, od5, .func (PySem.W.fnOf "_law_name" "_law_name" (defArgs s_law_name) (defBody s_law_name) (defScope s_law_name) .none kV5 dc5 pm5 an5 cd5 ct5), sl5⟩) (c5 : PySem.W.codeIn K cd5 "_law_name" = true) (k5 : PySem.W.keepIn K (.ref f5) = true)
    (a6 : PySem.W.nsIn K mainGlobals "_law_names" = some (some (.ref f6))) (l6 : K.lookup f6 = some ⟨oc6, od6, .func (PySem.W.fnOf "_law_names" "_law_names" (defArgs s_law_names) (defBody s_law_names) (defScope s_law_names) .none kV6 dc6 pm6 an6 cd6 ct6), sl6⟩) (c6 : PySem.W.codeIn K cd6 "_law_names" = true) (k6 : PySem.W.keepIn K (.ref f6) = true)
    (a7 : PySem.W.nsIn K mainGlobals "_law_great_machine" = some (some (.ref f7))) (l7 : K.lookup f7 = some ⟨oc7, od7, .func (PySem.W.fnOf "_law_great_machine" "_law_great_machine" (defArgs s_law_great_machine) (defBody s_law_great_machine) (defScope s_law_great_machine) .none kV7 dc7 pm7 an7 cd7 ct7), sl7⟩) (c7 : PySem.W.codeIn K cd7 "_law_great_machine" = true) (k7 : PySem.W.keepIn K (.ref f7) = true)
    (a8 : PySem.W.nsIn K mainGlobals "_law_number" = some (some (.ref f8))) (l8 : K.lookup f8 = some ⟨oc8, od8, .func (PySem.W.fnOf "_law_number" "_law_number" (defArgs s_law_number) (defBody s_law_number) (defScope s_law_number) .none kV8 dc8 pm8 an8 cd8 ct8), sl8⟩) (c8 : PySem.W.codeIn K cd8 "_law_number" = true) (k8 : PySem.W.keepIn K (.ref f8) = true)
    (a9 : PySem.W.nsIn K mainGlobals "_law_tuple" = some (some (.ref f9))) (l9 : K.lookup f9 = some ⟨oc9, od9, .func (PySem.W.fnOf "_law_tuple" "_law_tuple" (defArgs s_law_tuple) (defBody s_law_tuple) (defScope s_law_tuple) .none kV9 dc9 pm9 an9 cd9 ct9), sl9⟩) (c9 : PySem.W.codeIn K cd9 "_law_tuple" = true) (k9 : PySem.W.keepIn K (.ref f9) = true)
    (a10 : PySem.W.nsIn K mainGlobals "_law_good_set" = some (some (.ref f10))) (l10 : K.lookup f10 = some ⟨oc10, od10, .func (PySem.W.fnOf "_law_good_set" "_law_good_set" (defArgs s_law_good_set) (defBody s_law_good_set) (defScope s_law_good_set) .none kV10 dc10 pm10 an10 cd10 ct10), sl10⟩) (c10 : PySem.W.codeIn K cd10 "_law_good_set" = true) (k10 : PySem.W.keepIn K (.ref f10) = true)
    (a11 : PySem.W.nsIn K mainGlobals "_law_chain" = some (some (.ref f11))) (l11 : K.lookup f11 = some ⟨oc11, od11, .func (PySem.W.fnOf "_law_chain" "_law_chain" (defArgs s_law_chain) (defBody s_law_chain) (defScope s_law_chain) .none kV11 dc11 pm11 an11 cd11 ct11), sl11⟩) (c11 : PySem.W.codeIn K cd11 "_law_chain" = true) (k11 : PySem.W.keepIn K (.ref f11) = true)
    (a12 : PySem.W.nsIn K mainGlobals "_law_walk" = some (some (.ref f12))) (l12 : K.lookup f12 = some ⟨oc12, od12, .func (PySem.W.fnOf "_law_walk" "_law_walk" (defArgs s_law_walk) (defBody s_law_walk) (defScope s_law_walk) .none kV12 dc12 pm12 an12 cd12 ct12), sl12⟩) (c12 : PySem.W.codeIn K cd12 "_law_walk" = true) (k12 : PySem.W.keepIn K (.ref f12) = true)
    (a13 : PySem.W.nsIn K mainGlobals "_law_right" = some (some (.ref f13))) (l13 : K.lookup f13 = some ⟨oc13, od13, .func (PySem.W.fnOf "_law_right" "_law_right" (defArgs s_law_right) (defBody s_law_right) (defScope s_law_right) .none kV13 dc13 pm13 an13 cd13 ct13), sl13⟩) (c13 : PySem.W.codeIn K cd13 "_law_right" = true) (k13 : PySem.W.keepIn K (.ref f13) = true)
    (a14 : PySem.W.nsIn K mainGlobals "law" = some (some (.ref f14))) (l14 : K.lookup f14 = some ⟨oc14, od14, .func (PySem.W.fnOf "law" "law" (defArgs slaw) (defBody slaw) (defScope slaw) .none kV14 dc14 pm14 an14 cd14 ct14), sl14⟩) (c14 : PySem.W.codeIn K cd14 "law" = true) (k14 : PySem.W.keepIn K (.ref f14) = true)
    (z_tuple : PySem.W.nsIn K mainGlobals "tuple" = some none)
    (z_range : PySem.W.nsIn K mainGlobals "range" = some none)
    (z_len : PySem.W.nsIn K mainGlobals "len" = some none)
    (z_sorted : PySem.W.nsIn K mainGlobals "sorted" = some none)
    (z_isinstance : PySem.W.nsIn K mainGlobals "isinstance" = some none)
    (z_int : PySem.W.nsIn K mainGlobals "int" = some none)
    (z_list : PySem.W.nsIn K mainGlobals "list" = some none)
    (z_bool : PySem.W.nsIn K mainGlobals "bool" = some none)
    (z_enumerate : PySem.W.nsIn K mainGlobals "enumerate" = some none)
    : ∃ fd : FuncData, (∀ (s : Shared) (v : Value), BindsTo s fd ⟨[v], []⟩ [("_law_script", v)]) ∧ ∀ base : Heap, K.In base → base.Ns mainGlobals mg → FnOk l.prog w K mg base CX0 4 fa fd ["_law_script"] (spLaw K) := by
  have e := hfa.symm.trans (PySem.W.mg_of X G a14)
  cases e
  have F1 := fun_mk (st := sbehind) l1 c1 k1
  have F2 := fun_mk (st := sreached) l2 c2 k2
  have F3 := fun_mk (st := s_law_pool) l3 c3 k3
  have F4 := fun_mk (st := s_law_draw) l4 c4 k4
  have F5 := fun_mk (st := s_law_name) l5 c5 k5
  have F6 := fun_mk (st := s_law_names) l6 c6 k6
  have F7 := fun_mk (st := s_law_great_machine) l7 c7 k7
  have F8 := fun_mk (st := s_law_number) l8 c8 k8
  have F9 := fun_mk (st := s_law_tuple) l9 c9 k9
  have F10 := fun_mk (st := s_law_good_set) l10 c10 k10
  have F11 := fun_mk (st := s_law_chain) l11 c11 k11
  have F12 := fun_mk (st := s_law_walk) l12 c12 k12
  have F13 := fun_mk (st := s_law_right) l13 c13 k13
  have F14 := fun_mk (st := slaw) l14 c14 k14
  have b1 := F1.binds (ps := ["machine", "standing"]) fun _ _ _ _ _ _ us hl => match us, hl with | [_, _], _ => rfl
  have b2 := F2.binds (ps := ["machine", "standing"]) fun _ _ _ _ _ _ us hl => match us, hl with | [_, _], _ => rfl
  have b3 := F3.binds (ps := ["_law_script"]) fun _ _ _ _ _ _ us hl => match us, hl with | [_], _ => rfl
  have b4 := F4.binds (ps := ["_law_pool_here", "_law_many"]) fun _ _ _ _ _ _ us hl => match us, hl with | [_, _], _ => rfl
  have b5 := F5.binds (ps := ["_law_pool_here", "_law_start", "_law_taken"]) fun _ _ _ _ _ _ us hl => match us, hl with | [_, _, _], _ => rfl
  have b6 := F6.binds (ps := ["_law_pool_here", "_law_many"]) fun _ _ _ _ _ _ us hl => match us, hl with | [_, _], _ => rfl
  have b7 := F7.binds (ps := ["_law_pool_here", "_law_names_here"]) fun _ _ _ _ _ _ us hl => match us, hl with | [_, _], _ => rfl
  have b8 := F8.binds (ps := ["_law_thing", "_law_low", "_law_high"]) fun _ _ _ _ _ _ us hl => match us, hl with | [_, _, _], _ => rfl
  have b9 := F9.binds (ps := ["_law_thing", "_law_least", "_law_most"]) fun _ _ _ _ _ _ us hl => match us, hl with | [_, _, _], _ => rfl
  have b10 := F10.binds (ps := ["_law_thing", "_law_many"]) fun _ _ _ _ _ _ us hl => match us, hl with | [_, _], _ => rfl
  have b11 := F11.binds (ps := ["_law_pool_here", "_law_machine"]) fun _ _ _ _ _ _ us hl => match us, hl with | [_, _], _ => rfl
  have b12 := F12.binds (ps := ["_law_machine", "_law_standing"]) fun _ _ _ _ _ _ us hl => match us, hl with | [_, _], _ => rfl
  have b13 := F13.binds (ps := ["_law_machine", "_law_standing"]) fun _ _ _ _ _ _ us hl => match us, hl with | [_, _], _ => rfl
  have T : Bi mg := ⟨PySem.W.mg_none_of X G z_tuple, PySem.W.mg_none_of X G z_range, PySem.W.mg_none_of X G z_len, PySem.W.mg_none_of X G z_sorted, PySem.W.mg_none_of X G z_isinstance, PySem.W.mg_none_of X G z_int, PySem.W.mg_none_of X G z_list, PySem.W.mg_none_of X G z_bool, PySem.W.mg_none_of X G z_enumerate⟩
  refine ⟨PySem.W.fnOf "law" "law" (defArgs slaw) (defBody slaw) (defScope slaw) .none kV14 dc14 pm14 an14 cd14 ct14, fun s v => .of_eq rfl, fun base _ _ => ?_⟩
  have cbehind : Cal l.prog w K mg base 1 "behind" ["machine", "standing"] (spBehind K) := ⟨f1, _, ok_behind F1 T, PySem.W.mg_of X G a1, F1.kp, b1⟩
  have creached : Cal l.prog w K mg base 1 "reached" ["machine", "standing"] (spReached K) := ⟨f2, _, ok_reached F2 T, PySem.W.mg_of X G a2, F2.kp, b2⟩
  have c_law_pool : Cal l.prog w K mg base 1 "_law_pool" ["_law_script"] (spPool K) := ⟨f3, _, ok_pool F3 , PySem.W.mg_of X G a3, F3.kp, b3⟩
  have c_law_draw : Cal l.prog w K mg base 1 "_law_draw" ["_law_pool_here", "_law_many"] spDraw := ⟨f4, _, ok_draw F4 T, PySem.W.mg_of X G a4, F4.kp, b4⟩
  have c_law_name : Cal l.prog w K mg base 2 "_law_name" ["_law_pool_here", "_law_start", "_law_taken"] spLName := ⟨f5, _, ok_lname F5 T c_law_draw, PySem.W.mg_of X G a5, F5.kp, b5⟩
  have c_law_names : Cal l.prog w K mg base 3 "_law_names" ["_law_pool_here", "_law_many"] spLNames := ⟨f6, _, ok_lnames F6 T c_law_draw c_law_name, PySem.W.mg_of X G a6, F6.kp, b6⟩
  have c_law_great_machine : Cal l.prog w K mg base 2 "_law_great_machine" ["_law_pool_here", "_law_names_here"] (spGreat K) := ⟨f7, _, ok_great F7 T c_law_draw, PySem.W.mg_of X G a7, F7.kp, b7⟩
  have c_law_number : Cal l.prog w K mg base 1 "_law_number" ["_law_thing", "_law_low", "_law_high"] spLNum := ⟨f8, _, ok_lnum F8 T, PySem.W.mg_of X G a8, F8.kp, b8⟩
  have c_law_tuple : Cal l.prog w K mg base 1 "_law_tuple" ["_law_thing", "_law_least", "_law_most"] (spLTup K) := ⟨f9, _, ok_ltup F9 T, PySem.W.mg_of X G a9, F9.kp, b9⟩
  have c_law_good_set : Cal l.prog w K mg base 2 "_law_good_set" ["_law_thing", "_law_many"] (spLSet K) := ⟨f10, _, ok_lset F10 T c_law_tuple c_law_number, PySem.W.mg_of X G a10, F10.kp, b10⟩
  have c_law_chain : Cal l.prog w K mg base 2 "_law_chain" ["_law_pool_here", "_law_machine"] (spChain K) := ⟨f11, _, ok_chain F11 T c_law_draw, PySem.W.mg_of X G a11, F11.kp, b11⟩
  have c_law_walk : Cal l.prog w K mg base 1 "_law_walk" ["_law_machine", "_law_standing"] (spLWalk K) := ⟨f12, _, ok_lwalk F12 T, PySem.W.mg_of X G a12, F12.kp, b12⟩
  have c_law_right : Cal l.prog w K mg base 3 "_law_right" ["_law_machine", "_law_standing"] (spRight K) := ⟨f13, _, ok_right F13 T cbehind creached c_law_good_set c_law_walk, PySem.W.mg_of X G a13, F13.kp, b13⟩
  exact ok_law F14 T c_law_pool c_law_draw c_law_names c_law_great_machine c_law_chain c_law_right
end Fx
open PySem PySem.W PyProof.Rows
set_option maxHeartbeats 0 in
theorem PySem.Challenge.cw_fairtrees_k04_whole_reached_and_behind_holds : PySem.Challenge.rw_fairtrees_k04_whole_reached_and_behind.Holds := by
  w_on; o_law; k_head; (case hw => w_witness2)
  k_fill
  refine L2.walk_of (l := PySem.Challenge.rw_fairtrees_k04_whole_reached_and_behind) (n := 63) (k := 4) (x := "_law_script") (CX := fun _ => L2.CX0) (sp := fun w => Fx.spLaw _) rfl (by decide) rfl ⟨rfl, by decide, by decide⟩ (fun w h Y => PySem.W.kIn_of Y) ?F (fun _ _ a ns hl _ hS => ⟨a, ns, rfl, hS, hl, fun _ => rfl⟩) (fun _ _ _ _ _ h => h)
  case F =>
    intro w mg fa h KX G hmg
    refine' Fx.all_mk KX G hmg ?a1 ?l1 ?c1 ?k1 ?a2 ?l2 ?c2 ?k2 ?a3 ?l3 ?c3 ?k3 ?a4 ?l4 ?c4 ?k4 ?a5 ?l5 ?c5 ?k5 ?a6 ?l6 ?c6 ?k6 ?a7 ?l7 ?c7 ?k7 ?a8 ?l8 ?c8 ?k8 ?a9 ?l9 ?c9 ?k9 ?a10 ?l10 ?c10 ?k10 ?a11 ?l11 ?c11 ?k11 ?a12 ?l12 ?c12 ?k12 ?a13 ?l13 ?c13 ?k13 ?a14 ?l14 ?c14 ?k14 ?z_tuple ?z_range ?z_len ?z_sorted ?z_isinstance ?z_int ?z_list ?z_bool ?z_enumerate
    (case a1 => k_is); (case l1 => k_is); (case c1 => k_is); (case k1 => k_is); (case a2 => k_is); (case l2 => k_is); (case c2 => k_is); (case k2 => k_is); (case a3 => k_is); (case l3 => k_is); (case c3 => k_is); (case k3 => k_is); (case a4 => k_is); (case l4 => k_is); (case c4 => k_is); (case k4 => k_is); (case a5 => k_is); (case l5 => k_is); (case c5 => k_is); (case k5 => k_is); (case a6 => k_is); (case l6 => k_is); (case c6 => k_is); (case k6 => k_is); (case a7 => k_is); (case l7 => k_is); (case c7 => k_is); (case k7 => k_is); (case a8 => k_is); (case l8 => k_is); (case c8 => k_is); (case k8 => k_is); (case a9 => k_is); (case l9 => k_is); (case c9 => k_is); (case k9 => k_is); (case a10 => k_is); (case l10 => k_is); (case c10 => k_is); (case k10 => k_is); (case a11 => k_is); (case l11 => k_is); (case c11 => k_is); (case k11 => k_is); (case a12 => k_is); (case l12 => k_is); (case c12 => k_is); (case k12 => k_is); (case a13 => k_is); (case l13 => k_is); (case c13 => k_is); (case k13 => k_is); (case a14 => k_is); (case l14 => k_is); (case c14 => k_is); (case k14 => k_is); (case z_tuple => k_is); (case z_range => k_is); (case z_len => k_is); (case z_sorted => k_is); (case z_isinstance => k_is); (case z_int => k_is); (case z_list => k_is); (case z_bool => k_is); (case z_enumerate => k_is)
