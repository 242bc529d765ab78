import PyProof.Rows.All
import Wide.All
import OpenK.AllK
import Wide.FinOn
import HandS.ForMost
import HandS.Wide
import HandS.Style
import HandS.SortInts
import HandS.IsInst
import HandS.Evl
import HandS.Walk
import HandS.ForExc
import HandS.ExcInit
import HandS.ExcField
import HandS.ExcSuper
import HandS.Nested
import KE.KExcSuper
import HandS.Zip
import HandS.Sort
import PySem.Challenge.RW_listwindow_k34_turns_tick_by_tick
set_option Elab.async false
set_option linter.all false
set_option maxRecDepth 100000
set_option maxHeartbeats 4000000
/-! My own rules over the hand layer: calls by keywords alone, powers of great ints, what a heap keeps. -/
namespace My
open PySem PySem.Spec PyProof.Rows L2
/-! ### calls by keywords -/
def kg (n m : Nat) (π : List Nat) {α : Type} (us ws : List α) : List α := if us.length = n ∧ ws.length = m then π.filterMap (fun i => (us ++ ws)[i]?) else []
theorem vals_pick {xs : List V} {us : List Value} (r : Vals xs us) : ∀ (π : List Nat), Vals (π.filterMap (fun i => xs[i]?)) (π.filterMap (fun i => us[i]?))
  | [] => .nil
  | i :: π => by
    have ih := vals_pick r π
    cases e : xs[i]? with
    | none =>
      rw [List.filterMap_cons, e, List.filterMap_cons, r.none_of e]
      exact ih
    | some x =>
      obtain ⟨u, h1, h2⟩ := r.get e
      rw [List.filterMap_cons, e, List.filterMap_cons, h1]
      exact .cons h2 ih
theorem kg_rel {n m : Nat} {π : List Nat} {vs zs : List V} {us ws : List Value} (r : Vals vs us) (rz : Vals zs ws) : Vals (kg n m π vs zs) (kg n m π us ws) := by
  unfold kg
  rw [r.length, rz.length]
  split
  · exact vals_pick (r.append rz) π
  · exact .nil
theorem kbinds {K : PySem.W.Frag} {x qual : Str} {st : Stmt} {f : Addr} {fd : FuncData} {ps ks : List Str} (n m : Nat) (π : List Nat) (F : Fun K x qual st f fd) (hp : 0 < ps.length)
    (h : ∀ (kV doc pm : Value) (an : Option Addr) (cdv ct : Value) (us ws : List Value), us.length = n → ws.length = m → bindArgs (PySem.W.fnOf x qual (defArgs st) (defBody st) (defScope st) .none kV doc pm an cdv ct) ⟨us, ks.zip ws⟩ = pure (ps.zip (kg n m π us ws))) : KBinds K fd ps ks (kg n m π) (kg n m π) := by
  obtain ⟨oc, od, kV, doc, pm, an, cdv, ct, osl, rfl, lk, hcd⟩ := F.ex
  refine ⟨fun s us ws _ hl => ?_, fun r rz => kg_rel r rz⟩
  by_cases z : us.length = n ∧ ws.length = m
  · exact .of_eq (h kV doc pm an cdv ct us ws z.1 z.2)
  · unfold kg at hl
    rw [if_neg z] at hl
    rw [← hl] at hp
    exact absurd hp (Nat.lt_irrefl _)
section
variable {X : Cx} {CX : CXT} {k : Nat} {f C : Addr} {fd : FuncData} {ps ks : List Str} {sp : Sp} {E : XK} {x m : Str} {p pos apos kpos : Pos} {kws : List Keyword} {tk : TA} {g : List Value → List Value → List Value} {gV : List V → List V → List V}
/-- f(k = v, ..) -/
theorem pe_callK0 (F : FnOk X.prog X.w X.K X.mg X.base CX k f fd ps sp) (hr : Room k X.A) (hg : Gl X x) (hm : X.mg x = some (.ref f)) (hk : PySem.W.keepIn X.K (.ref f) = true) (hb : KBinds X.K fd ps ks g gV) (hx : Passes CX X E)
    (hkw : PK X kws tk) (hall : (backToKw pos (keywordEach kws X.env)).all (·.1.isSome) = true := by rfl) (hks : (backToKw pos (keywordEach kws X.env)).filterMap (·.1) = ks := by rfl)
    (hdb : (x == ("__debug__" : Str)) = false := by decide)
    (hpl : ((backTo pos (starEach [] X.env)).any (·.1) || (backToKw pos (keywordEach kws X.env)).any (·.1.isNone)) = false := by rfl) :
    PE X (.Call (.Name x p) [] kws pos) (tCallK sp gV E tNil tk) := by
  refine ⟨fun pins s σ H Q I h => ?_⟩
  refine wpAny_Call_Name_kw (ld_glob I hg hm ?_ hdb)
  refine PySem.W.callWith_KW0 (h₀ := X.base) I.ok.mod.kin hk hall ?_ hpl
  refine thn (hkw.run pos pins s σ H _ I h) fun ws s2 ⟨zs, H2, I2, rz, q2⟩ => ⟨I2.kIn, ?_⟩
  rw [hks]
  exact run_fnk (us := []) (vs := []) F hr hb hx I2 .nil rz q2
end
/-! ### powers of great ints -/
/-- a power of together at most 2 ^ 27 bits -/
def CPowW (i j : Int) : Prop := 0 ≤ j ∧ ((i.natAbs.log2 : Int) + 1) * j ≤ 2 ^ 27
theorem bits_le (x : Int) : (Builtin.Int.intBits x : Int) ≤ (x.natAbs.log2 : Int) + 1 := by
  unfold Builtin.Int.intBits
  split <;> omega
theorem op_powW {X : Cx} : OpR X (binaryOp .Pow) (rI CPowW fun i j => .int (i ^ j.toNat)) := opI fun i j _ _ _ _ _ hc q =>
  pow_int hc.1 (Int.le_trans (Int.mul_le_mul_of_nonneg_right (bits_le i) hc.1) hc.2) q
theorem powW_of {i : Int} {j : Nat} {a : Nat} (h : i.natAbs < 2 ^ a) (h0 : 0 < a) (hj : a * j ≤ 2 ^ 27) : CPowW i (j : Int) := by
  have := PySem.Flt.log2_lt_of h0 h
  refine ⟨Int.natCast_nonneg _, ?_⟩
  have e : ((i.natAbs.log2 : Int) + 1) * (j : Int) = (((i.natAbs.log2 + 1) * j : Nat) : Int) := by
    rw [Int.natCast_mul]
    rfl
  rw [e]
  have : (i.natAbs.log2 + 1) * j ≤ a * j := Nat.mul_le_mul_right _ this
  have : (i.natAbs.log2 + 1) * j ≤ 2 ^ 27 := Nat.le_trans this hj
  omega
/-! ### heaps -/
abbrev Ex := Evl.Ex
/-- all but the object at j is as it was -/
def Exj (j : Addr) (H H' : Hp) : Prop := ∀ b o, b ≠ j → H b = some o → H' b = some o
theorem Exj.refl (j : Addr) (H : Hp) : Exj j H H := fun _ _ _ h => h
theorem Exj.trans {j : Addr} {H H1 H2 : Hp} (a : Exj j H H1) (b : Exj j H1 H2) : Exj j H H2 := fun x o n h => b x o n (a x o n h)
theorem Exj.of {j : Addr} {H H' : Hp} (a : Ex H H') : Exj j H H' := fun x o _ h => a x o h
theorem Exj.upd {j : Addr} {H H' : Hp} {o : HO} (a : Exj j H H') : Exj j H (upd H' j o) := fun x u n h => by
  rw [upd_ne n]
  exact a x u n h
theorem Exj.new {j p : Addr} {H H' : Hp} {o : HO} (a : Exj j H H') (h : H' p = none) : Exj j H (L2.upd H' p o) := fun x u n e => by
  have := a x u n e
  rw [upd_ne (ne_of_none this h)]
  exact this
theorem Exj.sq {K : PySem.W.Frag} {j : Addr} {H H' : Hp} {a : Addr} {xs : List V} (e : Exj j H H') (n : a ≠ j) (h : SqL K H a xs) : SqL K H' a xs := by
  rcases h with (h | ⟨o, h⟩) | h
  · exact .inl (.inl (e _ _ n h))
  · exact .inl (.inr ⟨o, e _ _ n h⟩)
  · exact .inr h
/-- a new object, its heap by name -/
theorem newO {H : Hp} {o : HO} {P : V → Hp → Prop} (k : ∀ p H', H p = none → Ex H H' → H' p = some o → P (.ref p) H') : ∀ p, H p = none → P (.ref p) (L2.upd H p o) := fun p hp => k p _ hp (Evl.Ex.new hp) upd_same
theorem sqI {K : PySem.W.Frag} {H : Hp} {a : Addr} {xs : List V} (h : H a = some (.lst xs)) : SqL K H a xs := .inl (.inl h)
theorem sqT {K : PySem.W.Frag} {H : Hp} {a : Addr} {xs : List V} (h : H a = some (.tup xs)) : SqT K H a xs := .inl (.inl h)
/-! ### data: how a thing of Lean stands in the heap -/
/-- a way of writing things as data: it can be laid, it is no deeper than n, equal data are equal things -/
structure Good {α : Type} [DecidableEq α] (e : α → PyData) (n : Nat) : Prop where
  lay : ∀ x, (e x).canLay0 = true
  dep : ∀ x, (e x).depth ≤ n
  eqv : ∀ x y, PyData.eqv (e x) (e y) = decide (x = y)
def eL {α : Type} (e : α → PyData) (xs : List α) : PyData := .list (xs.map e)
def eT {α : Type} (e : α → PyData) (xs : List α) : PyData := .tuple (xs.map e)
def eP {α β : Type} (e : α → PyData) (f : β → PyData) (p : α × β) : PyData := .tuple [e p.1, f p.2]
theorem goodI : Good PyData.int 0 := ⟨fun _ => rfl, fun _ => Nat.le_refl _, fun x y => by
  show (x == y) = _
  rw [Bool.eq_iff_iff]
  simp⟩
theorem goodB : Good PyData.bool 0 := ⟨fun _ => rfl, fun _ => Nat.le_refl _, fun x y => by
  show (x == y) = _
  rw [Bool.eq_iff_iff]
  simp⟩
section
variable {α β : Type} [DecidableEq α] [DecidableEq β] {e : α → PyData} {f : β → PyData} {n m : Nat}
theorem Good.layAll (g : Good e n) : ∀ xs : List α, PyData.canLayAll0 (xs.map e) = true
  | [] => rfl
  | x :: xs => by
    show (PyData.canLay0 (e x) && PyData.canLayAll0 (xs.map e)) = true
    rw [g.layAll xs, g.lay x]
    rfl
theorem Good.depAll (g : Good e n) : ∀ xs : List α, PyData.depthAll (xs.map e) ≤ n
  | [] => Nat.zero_le _
  | x :: xs => by
    show max (PyData.depth (e x)) (PyData.depthAll (xs.map e)) ≤ n
    exact Nat.max_le.mpr ⟨g.dep x, g.depAll xs⟩
theorem Good.eqvAll (g : Good e n) : ∀ xs ys : List α, PyData.eqvAll (xs.map e) (ys.map e) = decide (xs = ys)
  | [], [] => rfl
  | [], _ :: _ => rfl
  | _ :: _, [] => rfl
  | x :: xs, y :: ys => by
    show (PyData.eqv (e x) (e y) && PyData.eqvAll (xs.map e) (ys.map e)) = _
    rw [g.eqvAll xs ys, g.eqv, Bool.eq_iff_iff]
    simp
theorem goodL (g : Good e n) : Good (eL e) (n + 1) := ⟨fun xs => g.layAll xs, fun xs => by
  show PyData.depthAll (xs.map e) + 1 ≤ n + 1
  have := g.depAll xs
  omega, fun xs ys => g.eqvAll xs ys⟩
theorem goodT (g : Good e n) : Good (eT e) (n + 1) := ⟨fun xs => g.layAll xs, fun xs => by
  show PyData.depthAll (xs.map e) + 1 ≤ n + 1
  have := g.depAll xs
  omega, fun xs ys => g.eqvAll xs ys⟩
theorem goodP (g : Good e n) (k : Good f n) : Good (eP e f) (n + 1) := ⟨fun p => by
    show (PyData.canLay0 (e p.1) && (PyData.canLay0 (f p.2) && true)) = true
    rw [g.lay, k.lay]
    rfl, fun p => by
    show max (PyData.depth (e p.1)) (max (PyData.depth (f p.2)) 0) + 1 ≤ n + 1
    have h1 := g.dep p.1
    have h2 := k.dep p.2
    have : max (PyData.depth (e p.1)) (max (PyData.depth (f p.2)) 0) ≤ n := Nat.max_le.mpr ⟨h1, Nat.max_le.mpr ⟨h2, Nat.zero_le _⟩⟩
    omega, fun p q => by
    show (PyData.eqv (e p.1) (e q.1) && (PyData.eqv (f p.2) (f q.2) && true)) = _
    rw [g.eqv, k.eqv, Bool.eq_iff_iff]
    obtain ⟨a, b⟩ := p
    obtain ⟨c, d⟩ := q
    simp⟩
theorem Good.shaped (g : Good e n) (h : n ≤ 64) (x : α) : SeqAt.shaped (e x) = true := by
  unfold SeqAt.shaped
  rw [g.lay x, decide_eq_true (Nat.le_trans (g.dep x) h)]
  rfl
/-- two things compared -/
theorem eqE {K : PySem.W.Frag} {H : Hp} {v u : V} {x y : α} {Q : VK} (g : Good e n) (hn : n ≤ 64) (h1 : Dp K H v (e x)) (h2 : Dp K H u (e y)) (q : Q (.bl (decide (x = y))) H) : rEqD K v u H Q :=
  ⟨_, _, h1, h2, g.shaped hn x, g.shaped hn y, by rw [g.eqv]; exact q⟩
theorem neE {K : PySem.W.Frag} {H : Hp} {v u : V} {x y : α} {Q : VK} (g : Good e n) (hn : n ≤ 64) (h1 : Dp K H v (e x)) (h2 : Dp K H u (e y)) (q : Q (.bl (!decide (x = y))) H) : rNeD K v u H Q :=
  ⟨_, _, h1, h2, g.shaped hn x, g.shaped hn y, by rw [g.eqv]; exact q⟩
end
theorem dpI {K : PySem.W.Frag} {H : Hp} : ∀ (ns : List Int), DpAll K H (ns.map V.int) (ns.map PyData.int)
  | [] => .nil
  | n :: ns => .cons (.int n) (dpI ns)
/-- a list of ints -/
theorem dpL {K : PySem.W.Frag} {H : Hp} {a : Addr} {ns : List Int} (h : SqL K H a (ns.map V.int)) : Dp K H (.ref a) (eL PyData.int ns) := .lst h (dpI ns)
theorem dpT {K : PySem.W.Frag} {H : Hp} {a : Addr} {ns : List Int} (h : SqT K H a (ns.map V.int)) : Dp K H (.ref a) (eT PyData.int ns) := .tup h (dpI ns)
/-- lists of ints compared -/
theorem eqI_ {K : PySem.W.Frag} {H : Hp} {a b : Addr} {xs ys : List Int} {Q : VK} (h1 : SqL K H a (xs.map V.int)) (h2 : SqL K H b (ys.map V.int)) (q : Q (.bl (decide (xs = ys))) H) : rEqD K (.ref a) (.ref b) H Q := eqE (goodL goodI) (by decide) (dpL h1) (dpL h2) q
theorem neI_ {K : PySem.W.Frag} {H : Hp} {a b : Addr} {xs ys : List Int} {Q : VK} (h1 : SqL K H a (xs.map V.int)) (h2 : SqL K H b (ys.map V.int)) (q : Q (.bl (!decide (xs = ys))) H) : rNeD K (.ref a) (.ref b) H Q := neE (goodL goodI) (by decide) (dpL h1) (dpL h2) q
/-! ### new objects, the heap behind them by a letter -/
section
variable {X : Cx} {es : List Expr} {t : TA} {pos : Pos}
theorem pe_weak {e : Expr} {t t' : TE} (h : PE X e t) (w : ∀ σ H Q, t' σ H Q → t σ H Q) : PE X e t' := ⟨fun pins s σ H Q I q => h.run pins s σ H Q I (w σ H Q q)⟩
def tCutA (t : TA) : TA := fun σ H Q => ∃ M : List V → Hp → Prop, t σ H M ∧ ∀ vs H', M vs H' → Q vs H'
theorem pa_cut (h : PA X es t) : PA X es (tCutA t) := ⟨fun pos pins s σ H Q I ⟨M, hm, hq⟩ => thn (h.run pos pins s σ H M I hm) fun us s1 ⟨xs, H1, I1, r, q⟩ => ⟨xs, H1, I1, r, hq xs H1 q⟩⟩
/-- a new thing o, at any free place of any heap that keeps H -/
def New (o : HO) (H : Hp) (Q : VK) : Prop := ∀ p H', H p = none → Ex H H' → H' p = some o → Q (.ref p) H'
theorem New.go {o : HO} {H : Hp} {Q : VK} (k : New o H Q) (p : Addr) (hp : H p = none) : Q (.ref p) (upd H p o) := k p _ hp (Evl.Ex.new hp) upd_same
def tLstG (t : TA) : TE := fun σ H Q => t σ H fun xs H1 => xs.length ≤ sizeLine ∧ New (.lst xs) H1 Q
def tTupG (t : TA) : TE := fun σ H Q => t σ H fun xs H1 => xs.length ≤ sizeLine ∧ New (.tup xs) H1 Q
theorem pe_lstG (h : PA X es t) : PE X (.List es pos) (tLstG t) := pe_weak (pe_lst (pa_cut h)) fun σ H Q q => ⟨_, q, fun _ _ z => ⟨z.1, fun p hp => z.2.go p hp⟩⟩
theorem pe_tupG {x1} (h : PA X es t) : PE X (.Tuple es x1 pos) (tTupG t) := pe_weak (pe_tup (pa_cut h)) fun σ H Q q => ⟨_, q, fun _ _ z => ⟨z.1, fun p hp => z.2.go p hp⟩⟩
def rCatG : R2 := fun x y H Q => ∃ l b xs zs, x = .ref l ∧ y = .ref b ∧ H l = some (.lst xs) ∧ H b = some (.lst zs) ∧ xs.length + zs.length ≤ sizeLine ∧ New (.lst (xs ++ zs)) H Q
theorem op_catG : OpR X (binaryOp .Add) rCatG := fun pins s σ H x y v u Q I rx ry ⟨l, b, xs, zs, h1, h2, h3, h4, h5, k⟩ => op_cat pins s σ H x y v u Q I rx ry ⟨l, b, xs, zs, h1, h2, h3, h4, h5, fun p hp => k.go p hp⟩
def rRepG : R2 := fun x y H Q => ∃ l k xs, x = .ref l ∧ y = .int k ∧ H l = some (.lst xs) ∧ -(2 ^ 63) ≤ k ∧ k < 2 ^ 63 ∧ xs.length * k.toNat ≤ sizeLine ∧ New (.lst (List.replicate k.toNat xs).flatten) H Q
theorem op_repG : OpR X (binaryOp .Mult) rRepG := fun pins s σ H x y v u Q I rx ry ⟨l, k, xs, h1, h2, h3, h4, h5, h6, z⟩ => op_rep pins s σ H x y v u Q I rx ry ⟨l, k, xs, h1, h2, h3, h4, h5, h6, fun p hp => z.go p hp⟩
def rSlG (K : PySem.W.Frag) : V → Option Int → Option Int → Hp → VK → Prop := fun x lo hi H Q => ∃ a xs, x = .ref a ∧ SqL K H a xs ∧ New (.lst (cutV xs lo hi)) H Q
theorem sl_listG : SlR X (rSlG X.K) := fun pins s σ H x v vl vu lo hi sl Q I rx hs pl pu ⟨a, xs, h1, h2, k⟩ => sl_list pins s σ H x v vl vu lo hi sl Q I rx hs pl pu ⟨a, xs, h1, h2, fun p hp => k.go p hp⟩
def rListG (K : PySem.W.Frag) : List V → Hp → VK → Prop := fun xs H Q => ∃ p ys, xs = [.ref p] ∧ (SqL K H p ys ∨ SqT K H p ys) ∧ New (.lst ys) H Q
theorem call_listG : CallR X (.type "list") (rListG X.K) := fun pins s σ H xs us Q I r ⟨p, ys, h1, h2, k⟩ => call_list_of pins s σ H xs us Q I r ⟨p, ys, h1, h2, fun p hp => k.go p hp⟩
def rTupleG (K : PySem.W.Frag) : List V → Hp → VK → Prop := fun xs H Q => ∃ p ys, xs = [.ref p] ∧ SqL K H p ys ∧ New (.tup ys) H Q
theorem call_tupleG : CallR X (.type "tuple") (rTupleG X.K) := fun pins s σ H xs us Q I r ⟨p, ys, h1, h2, k⟩ => call_tuple_of pins s σ H xs us Q I r ⟨p, ys, h1, .inl ⟨h2, fun p hp => k.go p hp⟩⟩
def rSortedG (K : PySem.W.Frag) : List V → Hp → VK → Prop := fun vs H Q => ∃ (a : Addr) (ns : List Int), vs = [V.ref a] ∧ SqL K H a (ns.map V.int) ∧ ∀ ns' : List Int, ns'.Perm ns → ns'.Pairwise (· ≤ ·) → New (.lst (ns'.map V.int)) H Q
theorem cr_sortedG : CallR X (.builtin "sorted") (rSortedG X.K) := fun pins s σ H xs us Q I r ⟨a, ns, h1, h2, k⟩ => cr_sortedI pins s σ H xs us Q I r ⟨a, ns, h1, h2, fun ns' p h3 h4 hp => (k ns' h3 h4).go p hp⟩
end
/-! ### slices -/
theorem cut_to (xs : List V) (n : Nat) : cutV xs none (some (n : Int)) = xs.take n := by
  unfold cutV
  rw [HT.sIx_none, HT.sIx_nat, List.drop_zero, Nat.sub_zero]
  by_cases h : n ≤ xs.length
  · rw [Nat.min_eq_left h]
  · rw [Nat.min_eq_right (by omega), List.take_of_length_le (Nat.le_refl _), List.take_of_length_le (by omega)]
theorem cut_from (xs : List V) (n : Nat) : cutV xs (some (n : Int)) none = xs.drop n := by
  unfold cutV
  rw [HT.sIx_none, HT.sIx_nat]
  by_cases h : n ≤ xs.length
  · rw [Nat.min_eq_left h, List.take_of_length_le (by rw [List.length_drop]; exact Nat.le_refl _)]
  · rw [Nat.min_eq_right (by omega), List.drop_eq_nil_of_le (Nat.le_refl _), List.drop_eq_nil_of_le (by omega)]
    exact List.take_nil
/-! ### ways that come together -/
section
variable {X : Cx}
def tCutE (te : TE) : TE := fun σ H Q => ∃ M : V → Hp → Prop, te σ H M ∧ ∀ v H', M v H' → Q v H'
def tCutT (tt : TT) : TT := fun σ H Q => ∃ M : Bool → Hp → Prop, tt σ H M ∧ ∀ b H', M b H' → Q b H'
def tCutS (t : TS) : TS := fun D σ H => ∃ M : L2.St → Hp → Prop, t { D with nx := M } σ H ∧ ∀ σ' H', M σ' H' → D.nx σ' H'
theorem pe_cut {e : Expr} {te : TE} (h : PE X e te) : PE X e (tCutE te) := ⟨fun pins s σ H Q I ⟨M, hm, hq⟩ => thn (h.run pins s σ H M I hm) fun v s1 ⟨x, H1, I1, r, q⟩ => ⟨x, H1, I1, r, hq x H1 q⟩⟩
theorem pt_cut {e : Expr} {tt : TT} (h : PT X e tt) : PT X e (tCutT tt) := ⟨fun pins s σ H Q I ⟨M, hm, hq⟩ => thn (h.run pins s σ H M I hm) fun b s1 ⟨H1, I1, q⟩ => ⟨H1, I1, hq b H1 q⟩⟩
theorem ps_cut {st : Stmt} {t : TS} (h : PS X st t) : PS X st (tCutS t) := by
  refine ⟨fun pins s σ H D I ⟨M, hm, hq⟩ => thn (h.run pins s σ H { D with nx := M } I hm) fun f s1 q => ?_⟩
  cases f with
  | next =>
    obtain ⟨σ', H', I', q⟩ := q
    exact ⟨σ', H', I', hq σ' H' q⟩
  | ret v => exact q
  | brk => exact q
  | cont => exact q
end
theorem ifF {c : Bool} {A B : Prop} (h : c = false) (k : B) : if c = true then A else B := by
  rw [h]
  exact iteF k
theorem ifT {c : Bool} {A B : Prop} (h : c = true) (k : A) : if c = true then A else B := by
  rw [h]
  exact iteT k
theorem ifB {c : Bool} {A B : Prop} (h1 : c = true → A) (h2 : c = false → B) : if c = true then A else B := by
  cases c with
  | true => exact iteT (h1 rfl)
  | false => exact iteF (h2 rfl)
/-! ### comprehensions without tests, the element without a trace -/
theorem lc_mapL {K : PySem.W.Frag} {a : Addr} {xs ys : List V} {j : Nat} {te : TE} {vs : List Nat} {σ : L2.St} {H1 : Hp} {D : Addr} {Qd : Hp → Prop} (hx : SqL K H1 a xs) (hD : H1 D = none) (hl : ys.length = xs.length) (hz : xs.length ≤ sizeLine)
    (hw : ∀ x, wipe ((wipe σ vs).set j (some x)) vs = wipe σ vs)
    (he : ∀ (i : Nat) x y H', Ex H1 H' → xs[i]? = some x → ys[i]? = some y → ∀ R : VK, (∀ H2, Ex H' H2 → R y H2) → te ((wipe σ vs).set j (some x)) H' R)
    (k : ∀ H', Ex H1 H' → H' D = some (.lst ys) → Qd H') :
    ∃ W : Nat → Nat → Hp → Prop, (∃ m, W 0 m (upd H1 D (.lst []))) ∧ ∀ i m H, W i m H →
      ((Itl K a).stop i H ∧ Qd H) ∨ ((Itl K a).go i H ∧ ∃ Nx : Hp → Prop, (∀ H', Nx H' → ∃ m', m' < m ∧ W (i + 1) m' H') ∧ ∀ x H', (Itl K a).yld i H x H' → gName j x (wipe σ vs) H' fun σ2 H2 => wipe σ2 vs = wipe σ vs ∧ tYes σ2 H2 fun b H3 =>
        if b = true then te σ2 H3 fun y H4 => ∃ acc, H4 D = some (.lst acc) ∧ acc.length < sizeLine ∧ Nx (upd H4 D (.lst (acc ++ [y]))) else Nx H3) := by
  refine lc_list (xs := xs) (fun i H' => Ex H1 H' ∧ H' D = some (.lst (ys.take i))) ⟨Evl.Ex.new hD, upd_same⟩ (fun i H' _ p => Evl.ex_l p.1 hx) (fun i x H' hi p => ?_) (fun H' p => k H' p.1 ?_)
  · have hi' : i < xs.length := (List.getElem?_eq_some_iff.mp hi).1
    have hy : ys[i]? = some (ys[i]'(by omega)) := List.getElem?_eq_getElem (by omega)
    refine ⟨hw x, ?_⟩
    show te ((wipe σ vs).set j (some x)) H' _
    refine he i x _ H' p.1 hi hy _ fun H2 e2 => ⟨ys.take i, e2 _ _ p.2, ?_, ?_⟩
    · rw [List.length_take]
      omega
    · refine ⟨Evl.Ex.mut (p.1.trans e2) hD, ?_⟩
      rw [upd_same, List.take_add_one, hy]
      rfl
  · have := p.2
    rw [List.take_of_length_le (by omega)] at this
    exact this
end My
set_option Elab.async false
set_option linter.all false
set_option maxRecDepth 100000
set_option maxHeartbeats 4000000
/-! Own errors whose __init__ says super().__init__("..") and keeps one field. -/
namespace My
open PySem PySem.Spec PyProof.Rows L2 NdefX
/-! ### the built-in __init__ bound to a new error, called -/
section
variable {prog : Program} {w : World} {A : Around} {E : Value → Shared → Prop} {h : Heap} {g : Array GenState} {d : Drawn} {t : Nat} {os : OsState}
variable {nm q : Str} {C N : Addr} {bs bm : List Value} {hdct : Bool} {sn : List Str} {sub : List Value} {ab : Bool} {col : Option Bool} {dd : Option Addr} {k0 k1 k2 k3 k5 : Option Value}
theorem call_mwV {u e t0 : Addr} {rest : List Value} {Q : Value → Shared → Prop}
    (hC : h.get? C = some (excClassObj nm q C N bs bm hdct sn sub ab col dd k0 k1 k2 k3 k5 "ValueError.__new__")) (he : h.get? e = some (HandSPX.excO C t0)) (hu : h.get? u = some (PySem.W.kxs_mw "ValueError.__init__" e)) (hrest : rest.length ≤ sizeLine)
    (hq : ∀ h' t1, (∀ b o, b ≠ e → h.get? b = some o → h'.get? b = some o) → h'.get? e = some (HandSPX.excO C t1) → Q .none ⟨h', g, d, t, os⟩) :
    wpAny (model prog w) A (call (.ref u) rest) Q E ⟨h, g, d, t, os⟩ := by
  refine wpAny_call (codeAny_of_tree ?_)
  show wpAny _ A.in1 (callAny (.ref u) ⟨rest, []⟩) _ _ _
  simp only [callAny]
  refine wpAny_bind (wpAny_load hu ?_)
  simp only [PySem.W.kxs_mw, show (Value.type "method-wrapper" == Value.type "method" || Value.type "method-wrapper" == Value.type "builtin_function_or_method" || Value.type "method-wrapper" == Value.type "method-wrapper") = true by decide, if_true]
  refine W.KFB.if_so (by decide) ?_
  refine wpAny_bind (ESX.check_bound F.excBase_ValueError hC he rfl ?_)
  refine wpAny_bind (wpAny_pure (wpAny_pure ?_))
  refine ⟨Code.quiet_builtin _ (by decide +kernel), codeAny_builtin F.excBase_ValueError.initEntry ?_⟩
  rw [Around.under_plainId F.excBase_ValueError.init.plain _]
  wp_walk
  refine hq _ h.objs.size (fun b o hb ho => ?_) ?_
  · rw [Heap.get?_update_other _ _ (Ne.symm hb)]
    exact Heap.get?_push_of_some _ ho
  · rw [Heap.get?_update_self _ (Heap.get?_push_of_some _ he) rfl]
    rfl
end
/-- what the written part says of the __init__ and of the class D that holds it -/
structure InitT (P : Program) (K : PySem.W.Frag) (mg : Str → Option Value) (st : Stmt) (qu : Str) (fI cc cda D : Addr) (fd : FuncData) : Prop where
  ex : ∃ (oc : Value) (od : Option Addr) (kV doc pm : Value) (an : Option Addr) (ct : Value) (osl : Array (Option Value)),
    fd = PySem.W.fnX "__init__" qu (defArgs st) (defBody st) (defScope st) [("__class__", cc)] .none kV doc pm an (.ref cda) ct ∧ K.lookup fI = some ⟨oc, od, .func fd, osl⟩
  code : PySem.W.codeIn K (.ref cda) qu = true
  cell : ∃ cl cld csl, K.lookup cc = some ⟨cl, cld, .cell (some (.ref D)), csl⟩
  file : ∃ (ccl : Value) (cdd : Option Addr) (ccs : Array (Option Value)) (vs : Array Value) (fl : Str) (tf : Tok), K.lookup cda = some ⟨ccl, cdd, .fields vs, ccs⟩ ∧ vs[2]? = some (.str fl tf) ∧ ((P.main.file : Str) == fl) = true
  cls : ∃ cdD, PySem.W.clsIn K D = some cdD
  sup : mg "super" = none
  top : (P.main.scope.names.lookup ("super" : Str)).isSome = false
  opq : PySem.W.nsIn K cStatics "thirdparty.any" = some none
/-- what it says of a class C of errors that has this __init__ -/
structure ErrC (K : PySem.W.Frag) (fI D C : Addr) : Prop where
  oex : OexC K C
  init : PySem.W.findIn K (.ref C) "__init__" = some (some (.ref fI))
  tI : PySem.W.typeIn K (.ref fI) = some (.type "function")
  nov : PySem.W.findIn K (.ref C) "value" = some none
  mro : PySem.W.mroIn K C (.ref D) = some true
  sin : PySem.W.ks_superIn K C D "__init__" = some (some (.builtin "ValueError.__init__"))
  sub : PySem.W.subIn K (.ref C) (.type "ValueError") = some true
  xf : XfC K C
/-- the first statement, super().__init__("..") -/
abbrev sSuper (p0 p1 p2 p3 p4 p5 : Pos) (x : Str) (j : Nat) : Stmt := .Expr (.Call (.Attribute (.Call (.Name "super" p0) [] [] p1) "__init__" p2) [.Constant (.str x) j p3] [] p4) p5
abbrev sKeep (p0 p1 p2 p3 : Pos) : Stmt := .Assign [.Attribute (.Name "self" p0) "value" p1] (.Name "value" p2) p3
/-- the promise: the new error at a has, behind it, its dict with the value -/
def spErr (K : PySem.W.Frag) (fI D : Addr) : Sp := fun vs H Q _ => ∃ (a C : Addr) (v : V), vs = [.ref a, v] ∧ ErrC K fI D C ∧ H a = some (exo a C none) ∧
  ∀ dx, H dx = none → dx ≠ a → Q .non (upd (upd H dx (exd dx [("value", v)])) a (exo a C (some dx)))
section
variable {P : Program} {w : World} {K : PySem.W.Frag} {mg : Str → Option Value} {base : Heap} {st : Stmt} {qu : Str} {fI cc cda D : Addr} {fd : FuncData}
theorem super_step {A : Around} {outer : List Env} {s0 : Shared} {H0 : Hp} {E0' : XK} {F : NF} {body : List Stmt} {p0 p1 p2 p3 p4 p5 : Pos} {x : Str} {j : Nat} {a C : Addr} {v : V} {H : Hp} {s : Shared} {ws : List (Option V)} {Q : Flow → Shared → Prop} {N : List Str}
    (T : InitT P K mg st qu fI cc cda D fd) (hF : F = ⟨"__init__", qu, defArgs st, defBody st, defScope st, [("__class__", cc)], cda⟩) (TC : ErrC K fI D C)
    (hks : (defScope st).names.lookup ("super" : Str) = some .globalImplicit) (hkc : (defScope st).names.lookup ("__class__" : Str) = some .free) (hka : (defScope st).names.lookup ("self" : Str) = some .local) (hk : (defScope st).kind = .function)
    (hp : ((defArgs st).posonlyargs ++ (defArgs st).args).head?.map (·.arg) = some ("self" : Str)) (hN : N[0]? = some ("self" : Str))
    {pl : Sem Bool} (hev : ∀ env : Env, eval (.Call (.Attribute (.Call (.Name "super" p0) [] [] p1) "__init__" p2) [.Constant (.str x) j p3] [] p4) env = (do
      let ov ← attributeBase (.Call (.Name "super" p0) [] [] p1) "__init__" env (eval (.Call (.Name "super" p0) [] [] p1) env)
      standAt p2.atName
      let (f, first) ← holding [ov] (getMethod ov "__init__" pl)
      callWith p4 f first (backTo p4 (starEach [.Constant (.str x) j p3] env)) []))
    (I : Inv (ncx CX0 P w K mg base N F fI A outer s0 H0 E0') [] (some (.ref a) :: some v :: ws) H s) (ha : H a = some (exo a C none))
    (h : ∀ s', Inv (ncx CX0 P w K mg base N F fI A outer s0 H0 E0') [] (some (.ref a) :: some v :: ws) H s' → Q .next s') :
    _root_.PySem.wpAt (model P w) (ncx CX0 P w K mg base N F fI A outer s0 H0 E0').A (.func body (ncx CX0 P w K mg base N F fI A outer s0 H0 E0').env) (exec (sSuper p0 p1 p2 p3 p4 p5 x j) (ncx CX0 P w K mg base N F fI A outer s0 H0 E0').env) Q (ncx CX0 P w K mg base N F fI A outer s0 H0 E0').xe s := by
  subst hF
  obtain ⟨oc, od, kV, doc, pm, an, ct, osl, efd, lk⟩ := T.ex
  obtain ⟨cl, cld, csl, hcell⟩ := T.cell
  obtain ⟨ccl, cdd, ccs, vs, fl, tf, hcode, hvs, hfile⟩ := T.file
  obtain ⟨cdD, hD⟩ := T.cls
  obtain ⟨nm, q, N', bs, bm, sn, sub, ab, col, dd, k0, k1, k2, k3, k5, hC, hbm⟩ := TC.oex.cls
  have hcl : PySem.W.clsIn K C = some { name := nm, bases := bs, mro := .ref C :: bm, ns := N', qualname := q, hasDict := true, slotNames := sn, subclasses := sub, abstract := ab, collection := col, hasDel := false } := by unfold PySem.W.clsIn; rw [hC] <;> rfl
  have KX : K.In s.heap := I.kIn
  obtain ⟨ar, har, harg⟩ : ∃ ar, ((defArgs st).posonlyargs ++ (defArgs st).args).head? = some ar ∧ ar.arg = ("self" : Str) := by
    cases e : ((defArgs st).posonlyargs ++ (defArgs st).args).head? with
    | none => rw [e] at hp; cases hp
    | some ar => rw [e] at hp; exact ⟨ar, rfl, Option.some.inj hp⟩
  obtain ⟨oD, hD1, hD2⟩ : ∃ oD, s.heap.get? D = some oD ∧ oD.data = .cls cdD := by
    unfold PySem.W.clsIn at hD
    split at hD
    · rename_i c d cd' sl ho
      cases hD
      exact ⟨_, KX _ _ ho, rfl⟩
    · cases hD
  obtain ⟨t1, hoe⟩ := exo_at I.hok ha
  -- the name self
  obtain ⟨m, hns, hl⟩ := id I.loc
  obtain ⟨u0, ru, lu⟩ := hl 0 "self" (.ref a) hN rfl (.inl hka)
  obtain rfl : u0 = Value.ref a := ru
  have hself : m "self" = some (.ref a) := by
    rcases lu with ⟨_, q⟩ | ⟨q, _⟩
    · exact q
    · have e : (defScope st).names.lookup ("self" : Str) = some .cell ∨ (defScope st).names.lookup ("self" : Str) = some .free := q
      rw [hka] at e
      rcases e with z | z <;> cases z
  obtain ⟨mb, hb1, hb2⟩ := I.mod.blt
  refine ks_wpAt_Expr_any (ks_wpAt_MethodCall ?_ (hev _)) (I.quiet) rfl
  refine ks_wpAt_super_base hks hkc (by decide) rfl (KX _ _ lk) (by rw [efd]) (ar := ar) har rfl (KX _ _ hcode) rfl hvs hfile T.top ?_
  refine PySem.W.ks_loadName_global hk hks (Calls.loadGlobal_builtin (I.mod.glob.keeps I.bk) T.sup (hb1.keeps I.bk) ((hb2 _ (by decide)).trans (by decide +kernel)) ⟨rfl, ?_⟩)
  refine wpAny_loadName_free hk hkc rfl ⟨_, KX _ _ hcell, rfl⟩ ?_
  rw [harg]
  refine wpAny_loadName_local hk hka hns hself ?_
  refine ks_wpAny_isType_cls hD1 hD2 ⟨rfl, ?_⟩
  obtain ⟨hp0, g, d, t, os⟩ := s
  refine ks_wpAny_call_super hD1 hD2 hoe rfl (fun c e => by cases e) (PySem.W.looks_mroIn KX TC.mro) (fun h1 e1 k1' => ?_)
  have I1 : Inv (ncx CX0 P w K mg base N ⟨"__init__", qu, defArgs st, defBody st, defScope st, [("__class__", cc)], cda⟩ fI A outer s0 H0 E0') [] (some (.ref a) :: some v :: ws) H ⟨h1, g, d, t, os⟩ := I.kept (h' := h1) (t' := t) k1'
  have KX1 : K.In h1 := I1.kIn
  have hoe1 := k1' _ _ hoe
  have hnaC : a ≠ C := by
    rintro rfl
    have z := KX _ _ hC
    rw [hoe] at z
    cases z
  have hI1 : PySem.W.Looks (model P w) h1 (isInstance (.ref a) (.type "ValueError")) true := (show PySem.W.InstAt h1 a _ C none from ⟨hoe1, rfl, rfl, trivial⟩).type.andThen (PySem.W.looks_subIn KX1 TC.sub)
  have hsin := TC.sin
  unfold PySem.W.ks_superIn at hsin
  rw [hcl, Option.bind_some] at hsin
  refine PySem.W.kxs_getMethod PySem.W.kxs_ValueError e1 (PySem.W.looks_opaque KX1 T.opq) (l₀ := .ref C :: bm) ?_ rfl KX1 hsin hI1 hnaC (by decide) ?_
  · exact fun A Q E s k q => wpAny_bind ((PySem.W.looks_clsIn KX1 hcl) A _ E s k (wpAny_pure q))
  have I2 : Inv (ncx CX0 P w K mg base N ⟨"__init__", qu, defArgs st, defBody st, defScope st, [("__class__", cc)], cda⟩ fI A outer s0 H0 E0') [] (some (.ref a) :: some v :: ws) H ⟨h1.push (PySem.W.kxs_mw "ValueError.__init__" a), g, d, t + 1, os⟩ := I1.kept (t' := t + 1) fun b o e => Heap.get?_push_of_some _ e
  have hu2 : (h1.push (PySem.W.kxs_mw "ValueError.__init__" a)).get? h1.objs.size = some (PySem.W.kxs_mw "ValueError.__init__" a) := Heap.get?_push_at rfl rfl
  have hoe2 : (h1.push (PySem.W.kxs_mw "ValueError.__init__" a)).get? a = _ := Heap.get?_push_of_some _ hoe1
  show wpAny _ _ (callWith p4 (.ref h1.objs.size) [] (backTo p4 (starEach [.Constant (.str x) j p3] _)) []) _ _ _
  refine PySem.W.kxs_callWith (i := "ValueError.__init__") (x := a) rfl (PySem.Calls.evalArgs_plain ?_)
  refine args_cons (Calls.Constant_str (args_nil ⟨hu2, ?_⟩)) rfl
  have I3 := I2.tok (t + 1 + 1)
  refine call_mwV (KX1.keeps (fun b o e => Heap.get?_push_of_some _ e) _ _ hC) hoe2 hu2 (by show 1 ≤ sizeLine; decide) (fun h' t' k he => ?_)
  have J := I3.write (t' := t + 1 + 1) (x := a) (e := a) (o := exo a C none) (by rw [ha]; exact True.intro) (.inl rfl) k ⟨_, he⟩ (exo_ok he)
  have eu : upd H a (exo a C none) = H := by
    funext b
    by_cases hb : b = a
    · rw [hb, upd_same, ha]
    · rw [upd_ne hb]
  rw [eu] at J
  exact h _ J
theorem ok_err {p0 p1 p2 p3 p4 p5 q0 q1 q2 q3 : Pos} {x : Str} {j : Nat} {pl : Sem Bool} (T : InitT P K mg st qu fI cc cda D fd) (S : NScope ["self", "value", "__class__"] ["self", "value"] ["__class__"] (defScope st))
    (hbd : defBody st = [sSuper p0 p1 p2 p3 p4 p5 x j, sKeep q0 q1 q2 q3]) (hks : (defScope st).names.lookup ("super" : Str) = some .globalImplicit)
    (hp : ((defArgs st).posonlyargs ++ (defArgs st).args).head?.map (·.arg) = some ("self" : Str))
    (hev : ∀ env : Env, eval (.Call (.Attribute (.Call (.Name "super" p0) [] [] p1) "__init__" p2) [.Constant (.str x) j p3] [] p4) env = (do
      let ov ← attributeBase (.Call (.Name "super" p0) [] [] p1) "__init__" env (eval (.Call (.Name "super" p0) [] [] p1) env)
      standAt p2.atName
      let (f, first) ← holding [ov] (getMethod ov "__init__" pl)
      callWith p4 f first (backTo p4 (starEach [.Constant (.str x) j p3] env)) [])) : FnOk P w K mg base CX0 1 fI fd ["self", "value"] (spErr K fI D) := by
  refine ⟨fun vs H Q E h => by obtain ⟨a, C, v, rfl, _⟩ := h; rfl, fun A outer s H args us vs Q E hr e0 hb r hsp => ?_⟩
  have KX : K.In s.heap := e0.mod.kin.keeps fun b o e => (e0.bs b o e).1
  have lim : s.heap.NoLimit := e0.mod.nolimit.keeps fun b o e => (e0.bs b o e).1
  obtain ⟨oc, od, kV, doc, pm, an, ct, osl, efd, lk⟩ := id T.ex
  obtain ⟨cl, cld, csl, hcell⟩ := T.cell
  obtain ⟨a, C, v, ev, TC, ha, k⟩ := hsp
  subst ev
  have hl : [V.ref a, v].length = (["self", "value"] : List Str).length := rfl
  have hC : CellsAt [(("__class__" : Str), cc)] ["__class__"] [some (.ref D)] s.heap H := by
    have hb := e0.mod.kin _ _ hcell
    have hs := e0.bs _ _ hb
    have key : ∀ {y : Str} {c : Addr}, ([(("__class__" : Str), cc)] : List (Str × Addr)).lookup y = some c → c = cc ∧ y = "__class__" := fun {y c} e => by
      have z := PySem.mem_of_lookup e
      have z' : (y, c) = (("__class__" : Str), cc) := by simpa using z
      exact ⟨congrArg Prod.snd z', congrArg Prod.fst z'⟩
    refine ⟨rfl, fun y c e => ?_, fun y z c e1 e2 => (key e1).2.trans (key e2).2.symm, fun i y e => ?_⟩
    · obtain ⟨rfl, rfl⟩ := key e
      exact ⟨hs.2, _, _, hs.1, rfl⟩
    · cases i with
      | zero =>
        have e' : ("__class__" : Str) = y := Option.some.inj e
        subst e'
        refine ⟨cc, by simp [List.lookup], fun u hu => ?_⟩
        have hu' : some (some (V.ref D)) = some (some u) := hu
        cases hu'
        exact ⟨.ref D, rfl, _, hs.1, rfl⟩
      | succ i => simp at e
  have hfd : (K.lookup fI) = some ⟨oc, od, .func (PySem.W.fnX "__init__" qu (defArgs st) (defBody st) (defScope st) [("__class__", cc)] .none kV doc pm an (.ref cda) ct), osl⟩ := by rw [← efd]; exact lk
  refine codeAny_call_function hr.depth (KX _ _ hfd) rfl S.co S.gen rfl (PySem.W.codeRec_of KX T.code) ?_
  have hb' := hb
  rw [efd] at hb'
  refine hb' _ _ _ _ ?_
  refine wpAny_newFunctionEnv S.nocell (fun ⟨n, _⟩ hy => S.par n (List.of_mem_zip hy).1) (fun h₁ hns hsb => ⟨lim.fresh _ hsb, ?_⟩) S.kind
  have kp : ∀ b o, s.heap.get? b = some o → h₁.get? b = some o := fun b o e => hsb.extBut b o (Nat.ne_of_lt (Heap.lt_size e)) (Heap.get?_push_of_some _ e)
  have I : Inv (ncx CX0 P w K mg base ["self", "value", "__class__"] ⟨"__init__", qu, defArgs st, defBody st, defScope st, [("__class__", cc)], cda⟩ fI A outer s H E) [] (startF ["self", "value", "__class__"] [V.ref a, v] [some (.ref D)]) H { s with heap := h₁, toks := s.toks + ((["self", "value"] : List Str).zip us).length } :=
    inv_startN (F := ⟨"__init__", qu, defArgs st, defBody st, defScope st, [("__class__", cc)], cda⟩) S hr.hd e0 hl r hC hns kp
  refine ks_codeAny_funcAt (env := (ncx CX0 P w K mg base ["self", "value", "__class__"] ⟨"__init__", qu, defArgs st, defBody st, defScope st, [("__class__", cc)], cda⟩ fI A outer s H E).env) (body := defBody st) ?_
  rw [show execs (defBody st) = execs [sSuper p0 p1 p2 p3 p4 p5 x j, sKeep q0 q1 q2 q3] from congrArg execs hbd]
  refine ks_wpAt_execs_cons (super_step T rfl TC hks (S.frk _ (by simp)) (S.par _ (by simp)) S.kind hp rfl hev I ha fun s' I' => ?_)
  have hpst : PSs (ncx CX0 P w K mg base ["self", "value", "__class__"] ⟨"__init__", qu, defArgs st, defBody st, defScope st, [("__class__", cc)], cda⟩ fI A outer s H E) [sKeep q0 q1 q2 q3] _ :=
    pss_one (ps_ost (pe_var (i := 0) rfl (.inl (S.par _ (by simp)))) (pe_var (i := 1) rfl (.inl (S.par _ (by simp)))))
  have run := hpst.run [] s' _ H { nx := fun _ H' => Q .non H', rt := Q } I' ⟨_, rfl, _, rfl, a, C, rfl, TC.oex, TC.nov, .inl ⟨ha, k⟩⟩
  refine wpAt_of_wpAny (wpAny_mono run (fun fl s2 hs => ?_) fun e s2 hs => hs)
  have fin : ∀ {σ' : L2.St} {H' : Hp} {v : V} {u : Value}, Inv (ncx CX0 P w K mg base ["self", "value", "__class__"] ⟨"__init__", qu, defArgs st, defBody st, defScope st, [("__class__", cc)], cda⟩ fI A outer s H E) [] σ' H' s2 → L2.RelV v u → Q v H' → CE outer P w H s Q u s2 :=
    fun {σ' H' v u} J rv q => ⟨v, H', J.os, J.bare, J.base, J.hok, rv, q⟩
  cases fl with
  | ret u =>
    obtain ⟨v, σ', H', J, rv, q⟩ := hs
    exact fin J rv q
  | next =>
    obtain ⟨σ', H', J, q⟩ := hs
    exact fin (v := V.non) (u := Value.none) J rfl q
  | brk =>
    obtain ⟨_, _, _, q⟩ := hs
    exact False.elim q
  | cont =>
    obtain ⟨_, _, _, q⟩ := hs
    exact False.elim q
end
/-! ### raise X(e) -/
/-- an error of the class at C with the value v is what is wanted -/
def Raised (C : Addr) (v : V) (H : Hp) (E : XK) : Prop := ∀ d H', H d = none → Ex H H' → H' d = some (.xd [("value", v)]) → E (.ref C) (some d) H'
def tErr (C : Addr) (ta : TA) : L2.St → Hp → XK → Prop := fun σ H Q => ta σ H fun vs H1 => ∃ v, vs = [v] ∧ Raised C v H1 Q
section
variable {X : Cx} {K : PySem.W.Frag} {fI D C : Addr} {fd : FuncData} {x : Str} {p pos : Pos} {e : Expr} {ta : TA}
theorem pmk_err (F : FnOk X.prog X.w X.K X.mg X.base CX0 1 fI fd ["self", "value"] (spErr X.K fI D)) (hb : Binds X.K fd ["self", "value"] []) (TC : ErrC X.K fI D C) (hr : Room 2 X.A) (hg : Gl X x) (hm : X.mg x = some (.ref C)) (ha : PA X [e] ta)
    (hdb : (x == ("__debug__" : Str)) = false := by decide) (he : starEach [e] X.env = (false, eval e X.env) :: starEach [] X.env := by rfl) (hpl : (backTo pos (starEach [] X.env)).any (·.1) = false := by rfl) :
    PMk X (.Call (.Name x p) [e] [] pos) (tErr C ta) := fun pins s σ H Q I h => by
  refine pmk_oex (sp := spErr X.K fI D) (dvs := []) TC.oex TC.init TC.tI F hr hb .nil pass0 hg hm (pa_cut ha) hdb he hpl pins s σ H Q I ⟨_, h, fun vs H1 z => ?_⟩
  obtain ⟨v, rfl, k⟩ := z
  refine ⟨by show 1 ≤ 1000; decide, fun a hn => ⟨a, C, v, rfl, TC, upd_same, fun dx hdx ne => ⟨rfl, dx, [("value", v)], upd_same, by rw [upd_ne ne, upd_same], ?_, ?_⟩⟩⟩
  · rw [upd_ne ne] at hdx
    exact hdx
  · rw [upd_ne ne] at hdx
    refine k dx _ hdx (fun b o hb => ?_) upd_same
    have n1 := ne_of_none hb hdx
    have n2 := ne_of_none hb hn
    rw [upd_ne n1, del_ne n2, upd_ne n2, upd_ne n1, upd_ne n2]
    exact hb
end
/-- calls of a def that may raise, in one that may -/
theorem passX {P : Program} {w : World} {K : PySem.W.Frag} {mg : Str → Option Value} {base : Heap} {N : List Str} {qual : Str} {scope : Scope} {f : Addr} {cd : Value} {A : Around} {outer : List Env} {s : Shared} {H : Hp} {E : XK} :
    Passes (L2.CX P w) (cxOf (L2.CX P w) P w K mg base N qual scope f cd A outer s H E) E := passes_call (X := cxOf (L2.CX P w) P w K mg base N qual scope f cd A outer s H E) (takes_of rfl rfl rfl rfl) (fun _ _ _ _ h => h)
/-! ### what the head's facts give -/
theorem along_ve (K : PySem.W.Frag) : PySem.W.alongIn K "__init__" PySem.HandSPX.veTail = some (some (.builtin "ValueError.__init__")) := by kernel_rfl
section
variable {K : PySem.W.Frag} {nm q : Str} {C D N : Addr} {bs : List Value} {sn : List Str} {sub : List Value} {ab : Bool} {col : Option Bool} {dd : Option Addr} {k0 k1 k2 k3 k5 : Option Value}
theorem sup_self (h : K.lookup C = some (excClassObj nm q C N bs PySem.HandSPX.veTail true sn sub ab col dd k0 k1 k2 k3 k5 "ValueError.__new__")) (e : C = D) : PySem.W.ks_superIn K C D "__init__" = some (some (.builtin "ValueError.__init__")) := by
  subst e
  unfold PySem.W.ks_superIn PySem.W.clsIn
  rw [h]
  show PySem.W.alongIn K "__init__" (((Value.ref C :: PySem.HandSPX.veTail).dropWhile (· != .ref C)).drop 1) = _
  rw [ESX.drop_own]
  exact along_ve K
theorem sup_child (h : K.lookup C = some (excClassObj nm q C N bs (.ref D :: PySem.HandSPX.veTail) true sn sub ab col dd k0 k1 k2 k3 k5 "ValueError.__new__")) (e : (C == D) = false) : PySem.W.ks_superIn K C D "__init__" = some (some (.builtin "ValueError.__init__")) := by
  unfold PySem.W.ks_superIn PySem.W.clsIn
  rw [h]
  show PySem.W.alongIn K "__init__" (((Value.ref C :: Value.ref D :: PySem.HandSPX.veTail).dropWhile (· != .ref D)).drop 1) = _
  have ne : ((Value.ref C : Value) != .ref D) = true := by
    have : C ≠ D := by simpa using e
    simp [this]
  rw [List.dropWhile_cons, if_pos ne, ESX.drop_own]
  exact along_ve K
theorem exm_gen {S S' : Addr} {b : Bool} (h1 : PySem.W.subIn K (.ref S') (.type "BaseException") = some true) (h2 : PySem.W.isClsIn K S' = true) (h3 : PySem.W.typeIn K (.ref S') = some (.type "type")) (h4 : PySem.W.subIn K (.ref S) (.ref S') = some b) :
    PySem.W.exmOne K (.ref S) (.ref S') = some b := by
  have e1 : (PySem.W.subIn K (.ref S') (.type "BaseException") == some true) = true := by rw [h1] <;> rfl
  have e2 : ((PySem.W.clsIn K S').isSome && PySem.W.typeIn K (.ref S') == some (.type "type")) = true := by
    have h2' : (PySem.W.clsIn K S').isSome = true := h2
    rw [h2', h3] <;> rfl
  show (if (PySem.W.subIn K (.ref S') (.type "BaseException") == some true) = true then (if ((PySem.W.clsIn K S').isSome && PySem.W.typeIn K (.ref S') == some (.type "type")) = true then PySem.W.subIn K (.ref S) (.ref S') else none) else none) = some b
  rw [if_pos e1, if_pos e2]
  exact h4
end
end My
set_option Elab.async false
set_option linter.all false
set_option maxRecDepth 100000
set_option maxHeartbeats 4000000
/-! Further rules: sum of a tuple, len of a range, calls by keywords of a def that may raise. -/
namespace My
open PySem PySem.Spec PyProof.Rows L2
section
variable {prog : Program} {w : World} {A : Around} {E : Value → Shared → Prop} {s : Shared} {l : Addr} {its : List Value} {ns : List Int} {Q : Value → Shared → Prop}
theorem sum_tupRaw (hh : A.handled = none) (hl : s.heap.IsTuple l its.toArray) (hi : IntsAre its ns)
    (h : ∀ h' tk t', (∀ b o, s.heap.get? b = some o → h'.get? b = some o) → Q (.int ns.sum t') { s with heap := h', toks := tk }) : wpAny (model prog w) A (call (.builtin "sum") [.ref l]) Q E s := by
  obtain ⟨xs, e⟩ := hi.allInts.items
  have hn : numsOf (intItems xs).toList = ns := by rw [← e]; exact hi.numsOf
  rw [nums_intItems] at hn
  rw [e] at hl
  have hlt : l < s.heap.objs.size := by obtain ⟨_, e, _⟩ := hl; exact Heap.lt_size e
  refine call_sum_walkG (wpAny_pyIter_tuple hl ?_)
  refine ⟨_, _, _, _, _, _, numAt xs, rfl, Walks.tuple (A := A.in1) hh _ l (Nat.ne_of_lt hlt) (intItems xs), ⟨⟨_, Heap.get?_push_size _ rfl, rfl, rfl⟩, ?_⟩, (fun b hb => ?_), (fun _ _ => intItems_at), fun h' tk t' hk => ?_⟩
  · obtain ⟨o, e1, e2⟩ := hl
    exact ⟨o, Heap.get?_push_of_some _ e1, e2⟩
  · show b < (s.heap.push _).objs.size
    rw [Heap.size_push]
    rcases List.mem_cons.mp hb with rfl | hb
    · exact Nat.lt_succ_self _
    · rcases List.mem_cons.mp hb with rfl | hb
      · exact Nat.lt_succ_of_lt hlt
      · cases hb
  · have := h h' tk t' (fun b o e => hk b o (fun hm => by
      have z : b = s.heap.objs.size := by simpa using hm
      exact Nat.ne_of_lt (Heap.lt_size e) z) (Heap.get?_push_of_some _ e))
    have e2 : preSum (numAt xs) (intItems xs).size = ns.sum := by
      rw [preSum_eq, List.take_of_length_le (by simp [intItems]), hn]
    rw [e2]
    exact this
end
section
variable {X : Cx}
def rSumT (K : PySem.W.Frag) : List V → Hp → VK → Prop := fun vs H Q => ∃ (a : Addr) (ns : List Int), vs = [V.ref a] ∧ SqT K H a (ns.map V.int) ∧ Q (.int ns.sum) H
theorem cr_sumT (hc : X.calm = true) : CallR X (.builtin "sum") (rSumT X.K) := by
  intro pins s σ H vs us Q I r h
  obtain ⟨a, ns, rfl, hs, q⟩ := h
  obtain ⟨its, rv, hl, _⟩ := I.tuple hs
  rw [Vals.ref1 r]
  exact sum_tupRaw (I.ok.hd hc) hl rv.ints fun h' tk t' hk => ⟨.int _, H, I.kept hk, ⟨_, rfl⟩, q⟩
/-- len(range(a, b)) -/
def rLenR : List V → Hp → VK → Prop := fun vs H Q => ∃ (p : Addr) (lo hi : Int), vs = [V.ref p] ∧ H p = some (.rng lo hi) ∧ hi - lo < 2 ^ 62 ∧ Q (.int (if lo < hi then hi - lo else 0)) H
theorem call_lenR : CallR X (.builtin "len") rLenR := by
  intro pins s σ H vs us Q I r h
  obtain ⟨p, lo, hi, rfl, hp, hz, q⟩ := h
  rw [Vals.ref1 r]
  obtain ⟨t, u, v, ho⟩ := (show ObjOk X.prog X.w H s.heap p (.rng lo hi) from I.hok p _ hp)
  have e : ((if lo < hi then hi - lo else 0 : Int)) = (((if lo < hi then hi - lo else 0 : Int)).toNat : Int) := by split <;> omega
  refine call_len_range (n := ((if lo < hi then hi - lo else 0 : Int)).toNat) (a := lo) (b := hi) (c := 1) ho ?_ ?_ ?_
  · rw [rangeSize_one, ← e]
  · rw [← e]
    split <;> omega
  · rw [← e]
    exact ⟨.int _, H, I.tok _, ⟨_, rfl⟩, q⟩
def rRangeG : List V → Hp → VK → Prop := fun vs H Q => ∃ i j, vs = [V.int i, V.int j] ∧ New (.rng i j) H Q
theorem cr_rangeG : CallR X (.type "range") rRangeG := fun pins s σ H xs us Q I r ⟨i, j, h1, k⟩ => cr_range2 pins s σ H xs us Q I r ⟨i, j, h1, fun p hp => k.go p hp⟩
end
section
variable {X : Cx} {CX : CXT} {k : Nat} {f C : Addr} {fd : FuncData} {ps ks : List Str} {sp : Sp} {E : L2.St → XK} {x m : Str} {p pos apos kpos : Pos} {kws : List Keyword} {tk : TA} {g : List Value → List Value → List Value} {gV : List V → List V → List V}
theorem run_fnkS {pins : List (Addr × Obj)} {σ : L2.St} {H : Hp} {s : Shared} {Q : VK} {us ws : List Value} {vs zs : List V} (F : FnOk X.prog X.w X.K X.mg X.base CX k f fd ps sp) (hr : Room k X.A) (hb : KBinds X.K fd ps ks g gV) (hx : PassesAt CX X σ (E σ))
    (I : Inv X pins σ H s) (r : Vals vs us) (rz : Vals zs ws) (h : sp (gV vs zs) H Q (E σ)) : wpAny (model X.prog X.w) X.A (call (.ref f) us (ks.zip ws)) (EP X pins σ Q) X.xe s := by
  have r2 := hb.rel r rz
  have hl : (g us ws).length = ps.length := by rw [← r2.length]; exact F.len _ _ _ _ h
  refine wpAny_call (codeAny_mono (F.run X.A X.stack s H ⟨us, ks.zip ws⟩ (g us ws) (gV vs zs) Q (E σ) hr I.env0 (hb.to s us ws I.kIn hl) r2 h) fun r s' hq => ?_)
  cases r with
  | error e => exact hx pins H s e s' I hq
  | ok fl =>
    cases fl with
    | ret u => exact I.after hq
    | next => exact False.elim hq
    | brk => exact False.elim hq
    | cont => exact False.elim hq
def tCallKS (sp : Sp) (gV : List V → List V → List V) (E : L2.St → XK) (t tk : TA) : TE := fun σ H Q => t σ H fun vs H1 => tk σ H1 fun zs H2 => sp (gV vs zs) H2 Q (E σ)
/-- f(k = v, ..) in a try -/
theorem pe_callK0S (F : FnOk X.prog X.w X.K X.mg X.base CX k f fd ps sp) (hr : Room k X.A) (hg : Gl X x) (hm : X.mg x = some (.ref f)) (hk : PySem.W.keepIn X.K (.ref f) = true) (hb : KBinds X.K fd ps ks g gV) (hx : ∀ σ, PassesAt CX X σ (E σ))
    (hkw : PK X kws tk) (hall : (backToKw pos (keywordEach kws X.env)).all (·.1.isSome) = true := by rfl) (hks : (backToKw pos (keywordEach kws X.env)).filterMap (·.1) = ks := by rfl)
    (hdb : (x == ("__debug__" : Str)) = false := by decide)
    (hpl : ((backTo pos (starEach [] X.env)).any (·.1) || (backToKw pos (keywordEach kws X.env)).any (·.1.isNone)) = false := by rfl) :
    PE X (.Call (.Name x p) [] kws pos) (tCallKS sp gV E tNil tk) := by
  refine ⟨fun pins s σ H Q I h => ?_⟩
  refine wpAny_Call_Name_kw (ld_glob I hg hm ?_ hdb)
  refine PySem.W.callWith_KW0 (h₀ := X.base) I.ok.mod.kin hk hall ?_ hpl
  refine thn (hkw.run pos pins s σ H _ I h) fun ws s2 ⟨zs, H2, I2, rz, q2⟩ => ⟨I2.kIn, ?_⟩
  rw [hks]
  exact run_fnkS (us := []) (vs := []) F hr hb (hx σ) I2 .nil rz q2
variable {e : Expr} {es : List Expr} {t : TA}
/-- f(e, .., k = v, ..) in a try -/
theorem pe_callKS (F : FnOk X.prog X.w X.K X.mg X.base CX k f fd ps sp) (hr : Room k X.A) (hg : Gl X x) (hm : X.mg x = some (.ref f)) (hk : PySem.W.keepIn X.K (.ref f) = true) (hb : KBinds X.K fd ps ks g gV) (hx : ∀ σ, PassesAt CX X σ (E σ))
    (ha : PA X (e :: es) t) (hkw : PK X kws tk) (hall : (backToKw pos (keywordEach kws X.env)).all (·.1.isSome) = true := by rfl) (hks : (backToKw pos (keywordEach kws X.env)).filterMap (·.1) = ks := by rfl)
    (hdb : (x == ("__debug__" : Str)) = false := by decide) (he : starEach (e :: es) X.env = (false, eval e X.env) :: starEach es X.env := by rfl)
    (hpl : ((backTo pos (starEach (e :: es) X.env)).any (·.1) || (backToKw pos (keywordEach kws X.env)).any (·.1.isNone)) = false := by rfl) :
    PE X (.Call (.Name x p) (e :: es) kws pos) (tCallKS sp gV E t tk) := by
  refine ⟨fun pins s σ H Q I h => ?_⟩
  refine wpAny_Call_Name_kw (ld_glob I hg hm ?_ hdb)
  refine PySem.W.callWith_KW (h₀ := X.base) I.ok.mod.kin hk hall (thn (ha.run pos pins s σ H _ I h) fun us s1 ⟨vs, H1, I1, r, q⟩ => ?_) hpl he
  refine thn (hkw.run pos pins s1 σ H1 _ I1 q) fun ws s2 ⟨zs, H2, I2, rz, q2⟩ => ⟨I2.kIn, ?_⟩
  rw [hks]
  exact run_fnkS F hr hb (hx σ) I2 r rz q2
end
/-! rules within a comprehension: what may be kept by name is that of the def -/
section
variable {X : Cx} {K : PySem.W.Frag}
theorem crK {f : Value} {r : PySem.W.Frag → List V → Hp → VK → Prop} (h : X.K = K) (c : CallR X f (r X.K)) : CallR X f (r K) := h ▸ c
theorem ixK {r : PySem.W.Frag → R2} (h : X.K = K) (c : IxR X (r X.K)) : IxR X (r K) := h ▸ c
theorem opK {f : Value → Value → Sem Value} {r : PySem.W.Frag → R2} (h : X.K = K) (c : OpR X f (r X.K)) : OpR X f (r K) := h ▸ c
def rLenSq (K : PySem.W.Frag) : List V → Hp → VK → Prop := fun xs H Q => ∃ p ys, xs = [.ref p] ∧ (SqL K H p ys ∨ SqT K H p ys) ∧ Q (.int ys.length) H
end
end My
set_option Elab.async false
set_option linter.all false
set_option maxRecDepth 100000
set_option maxHeartbeats 4000000
namespace K34
open PySem L2 My
def topS (i : Nat) : Stmt := PySem.Challenge.pw_listwindow_k34_turns_tick_by_tick.main.body.getD i (.Pass ⟨0, 0, 0, 0⟩)
abbrev PR : Program := PySem.Challenge.pw_listwindow_k34_turns_tick_by_tick
abbrev s_init : Stmt := inClass (topS 1) 0
abbrev s_need_from : Stmt := topS 4
theorem sc_need_from : FnScope ["number", "least"] ["number", "least"] (defScope s_need_from) := ⟨rfl, rfl, rfl, by decide +kernel, rfl, by decide +kernel, by decide +kernel⟩
abbrev s_need_rooms : Stmt := topS 5
theorem sc_need_rooms : FnScope ["rooms", "size"] ["rooms"] (defScope s_need_rooms) := ⟨rfl, rfl, rfl, by decide +kernel, rfl, by decide +kernel, by decide +kernel⟩
abbrev s_need_scrolls : Stmt := topS 6
theorem sc_need_scrolls : FnScope ["rooms", "scrolls", "size", "scroll"] ["rooms", "scrolls"] (defScope s_need_scrolls) := ⟨rfl, rfl, rfl, by decide +kernel, rfl, by decide +kernel, by decide +kernel⟩
abbrev s_between : Stmt := topS 7
theorem sc_between : FnScope ["number", "least", "greatest"] ["number", "least", "greatest"] (defScope s_between) := ⟨rfl, rfl, rfl, by decide +kernel, rfl, by decide +kernel, by decide +kernel⟩
abbrev s_room_for : Stmt := topS 8
theorem sc_room_for : FnScope ["lines", "height"] ["lines", "height"] (defScope s_room_for) := ⟨rfl, rfl, rfl, by decide +kernel, rfl, by decide +kernel, by decide +kernel⟩
abbrev s_room_of : Stmt := topS 9
theorem sc_room_of : FnScope ["lines", "height"] ["lines", "height"] (defScope s_room_of) := ⟨rfl, rfl, rfl, by decide +kernel, rfl, by decide +kernel, by decide +kernel⟩
abbrev s_after_turn : Stmt := topS 10
theorem sc_after_turn : FnScope ["rooms", "scrolls", "turn", "window", "page", "own"] ["rooms", "scrolls", "turn"] (defScope s_after_turn) := ⟨rfl, rfl, rfl, by decide +kernel, rfl, by decide +kernel, by decide +kernel⟩
abbrev s_scrolls_after : Stmt := topS 11
theorem sc_scrolls_after : FnScope ["rooms", "scrolls", "turns", "found", "turn"] ["rooms", "scrolls", "turns"] (defScope s_scrolls_after) := ⟨rfl, rfl, rfl, by decide +kernel, rfl, by decide +kernel, by decide +kernel⟩
abbrev s_turned_by : Stmt := topS 12
theorem sc_turned_by : FnScope ["rooms", "scrolls", "turns", "window", "page"] ["rooms", "scrolls", "turns"] (defScope s_turned_by) := ⟨rfl, rfl, rfl, by decide +kernel, rfl, by decide +kernel, by decide +kernel⟩
abbrev s_lost : Stmt := topS 13
theorem sc_lost : FnScope ["rooms", "scrolls", "turns", "here", "down", "up", "turn", "later", "moved"] ["rooms", "scrolls", "turns"] (defScope s_lost) := ⟨rfl, rfl, rfl, by decide +kernel, rfl, by decide +kernel, by decide +kernel⟩
abbrev s_clipped : Stmt := topS 14
theorem sc_clipped : FnScope ["rooms", "scrolls"] ["rooms", "scrolls"] (defScope s_clipped) := ⟨rfl, rfl, rfl, by decide +kernel, rfl, by decide +kernel, by decide +kernel⟩
abbrev s__law_jug : Stmt := topS 16
theorem sc__law_jug : FnScope ["_law_script", "_law_k", "_law_cell"] ["_law_script", "_law_k"] (defScope s__law_jug) := ⟨rfl, rfl, rfl, by decide +kernel, rfl, by decide +kernel, by decide +kernel⟩
abbrev s__law_pour : Stmt := topS 17
theorem sc__law_pour : FnScope ["_law_jug_here", "_law_many", "_law_found", "_law_mixed"] ["_law_jug_here", "_law_many"] (defScope s__law_pour) := ⟨rfl, rfl, rfl, by decide +kernel, rfl, by decide +kernel, by decide +kernel⟩
abbrev s__law_turns : Stmt := topS 18
theorem sc__law_turns : FnScope ["_law_jug_here", "_law_most", "_law_size", "_law_many", "_law_turn"] ["_law_jug_here", "_law_most", "_law_size"] (defScope s__law_turns) := ⟨rfl, rfl, rfl, by decide +kernel, rfl, by decide +kernel, by decide +kernel⟩
abbrev s__law_ticks : Stmt := topS 19
theorem sc__law_ticks : FnScope ["_law_rooms", "_law_scrolls", "_law_turns_here", "_law_window", "_law_page", "_law_down", "_law_up", "_law_turn", "_law_tick"] ["_law_rooms", "_law_scrolls", "_law_turns_here"] (defScope s__law_ticks) := ⟨rfl, rfl, rfl, by decide +kernel, rfl, by decide +kernel, by decide +kernel⟩
abbrev s__law_due : Stmt := topS 20
theorem sc__law_due : FnScope ["_law_rooms", "_law_scrolls", "_law_number", "_law_size", "_law_scroll"] ["_law_rooms", "_law_scrolls"] (defScope s__law_due) := ⟨rfl, rfl, rfl, by decide +kernel, rfl, by decide +kernel, by decide +kernel⟩
abbrev s__law_refused : Stmt := topS 21
theorem sc__law_refused : FnScope ["_law_word", "_law_rooms", "_law_scrolls", "_law_turns_here", "e"] ["_law_word", "_law_rooms", "_law_scrolls", "_law_turns_here"] (defScope s__law_refused) := ⟨rfl, rfl, rfl, by decide +kernel, rfl, by decide +kernel, by decide +kernel⟩
abbrev s__law_right : Stmt := topS 22
theorem sc__law_right : FnScope ["_law_rooms", "_law_scrolls", "_law_turns_here", "_law_width", "_law_due_here", "_law_great", "_law_told", "_law_wide", "_law_far", "_law_turn"] ["_law_rooms", "_law_scrolls", "_law_turns_here", "_law_width"] (defScope s__law_right) := ⟨rfl, rfl, rfl, by decide +kernel, rfl, by decide +kernel, by decide +kernel⟩
abbrev s__law_great_right : Stmt := topS 23
theorem sc__law_great_right : FnScope ["_law_jug_here", "_law_rooms", "_law_begin", "_law_turns_here", "_law_lots", "_law_window", "_law_page", "_law_turn", "_law_most", "_law_own", "_law_more"] ["_law_jug_here"] (defScope s__law_great_right) := ⟨rfl, rfl, rfl, by decide +kernel, rfl, by decide +kernel, by decide +kernel⟩
abbrev s__law_clipped_right : Stmt := topS 24
theorem sc__law_clipped_right : FnScope ["_law_rooms", "_law_scrolls", "_law_width", "_law_many", "_law_told", "_law_due_here", "_law_size", "_law_scroll"] ["_law_rooms", "_law_scrolls", "_law_width"] (defScope s__law_clipped_right) := ⟨rfl, rfl, rfl, by decide +kernel, rfl, by decide +kernel, by decide +kernel⟩
abbrev s__law_room_right : Stmt := topS 25
theorem sc__law_room_right : FnScope ["_law_jug_here", "_law_lines", "_law_height", "_law_due_here", "_law_told", "_law_many", "e"] ["_law_jug_here"] (defScope s__law_room_right) := ⟨rfl, rfl, rfl, by decide +kernel, rfl, by decide +kernel, by decide +kernel⟩
abbrev s_law : Stmt := topS 26
theorem sc_law : FnScope ["_law_script", "_law_k", "_law_jug_here", "_law_width", "_law_rooms", "_law_scrolls", "_law_turns_here", "_law_odd", "_law_beyond", "_law_word", "_law_due_here"] ["_law_script"] (defScope s_law) := ⟨rfl, rfl, rfl, by decide +kernel, rfl, by decide +kernel, by decide +kernel⟩
structure Txt (K : PySem.W.Frag) (mg : Str → Option Value) where
  a_need_from : Addr
  d_need_from : FuncData
  f_need_from : Fun K "need_from" "need_from" s_need_from a_need_from d_need_from
  g_need_from : mg "need_from" = some (.ref a_need_from)
  a_need_rooms : Addr
  d_need_rooms : FuncData
  f_need_rooms : Fun K "need_rooms" "need_rooms" s_need_rooms a_need_rooms d_need_rooms
  g_need_rooms : mg "need_rooms" = some (.ref a_need_rooms)
  a_need_scrolls : Addr
  d_need_scrolls : FuncData
  f_need_scrolls : Fun K "need_scrolls" "need_scrolls" s_need_scrolls a_need_scrolls d_need_scrolls
  g_need_scrolls : mg "need_scrolls" = some (.ref a_need_scrolls)
  a_between : Addr
  d_between : FuncData
  f_between : Fun K "between" "between" s_between a_between d_between
  g_between : mg "between" = some (.ref a_between)
  a_room_for : Addr
  d_room_for : FuncData
  f_room_for : Fun K "room_for" "room_for" s_room_for a_room_for d_room_for
  g_room_for : mg "room_for" = some (.ref a_room_for)
  a_room_of : Addr
  d_room_of : FuncData
  f_room_of : Fun K "room_of" "room_of" s_room_of a_room_of d_room_of
  g_room_of : mg "room_of" = some (.ref a_room_of)
  a_after_turn : Addr
  d_after_turn : FuncData
  f_after_turn : Fun K "after_turn" "after_turn" s_after_turn a_after_turn d_after_turn
  g_after_turn : mg "after_turn" = some (.ref a_after_turn)
  a_scrolls_after : Addr
  d_scrolls_after : FuncData
  f_scrolls_after : Fun K "scrolls_after" "scrolls_after" s_scrolls_after a_scrolls_after d_scrolls_after
  g_scrolls_after : mg "scrolls_after" = some (.ref a_scrolls_after)
  a_turned_by : Addr
  d_turned_by : FuncData
  f_turned_by : Fun K "turned_by" "turned_by" s_turned_by a_turned_by d_turned_by
  g_turned_by : mg "turned_by" = some (.ref a_turned_by)
  a_lost : Addr
  d_lost : FuncData
  f_lost : Fun K "lost" "lost" s_lost a_lost d_lost
  g_lost : mg "lost" = some (.ref a_lost)
  a_clipped : Addr
  d_clipped : FuncData
  f_clipped : Fun K "clipped" "clipped" s_clipped a_clipped d_clipped
  g_clipped : mg "clipped" = some (.ref a_clipped)
  a__law_jug : Addr
  d__law_jug : FuncData
  f__law_jug : Fun K "_law_jug" "_law_jug" s__law_jug a__law_jug d__law_jug
  g__law_jug : mg "_law_jug" = some (.ref a__law_jug)
  a__law_pour : Addr
  d__law_pour : FuncData
  f__law_pour : Fun K "_law_pour" "_law_pour" s__law_pour a__law_pour d__law_pour
  g__law_pour : mg "_law_pour" = some (.ref a__law_pour)
  a__law_turns : Addr
  d__law_turns : FuncData
  f__law_turns : Fun K "_law_turns" "_law_turns" s__law_turns a__law_turns d__law_turns
  g__law_turns : mg "_law_turns" = some (.ref a__law_turns)
  a__law_ticks : Addr
  d__law_ticks : FuncData
  f__law_ticks : Fun K "_law_ticks" "_law_ticks" s__law_ticks a__law_ticks d__law_ticks
  g__law_ticks : mg "_law_ticks" = some (.ref a__law_ticks)
  a__law_due : Addr
  d__law_due : FuncData
  f__law_due : Fun K "_law_due" "_law_due" s__law_due a__law_due d__law_due
  g__law_due : mg "_law_due" = some (.ref a__law_due)
  a__law_refused : Addr
  d__law_refused : FuncData
  f__law_refused : Fun K "_law_refused" "_law_refused" s__law_refused a__law_refused d__law_refused
  g__law_refused : mg "_law_refused" = some (.ref a__law_refused)
  a__law_right : Addr
  d__law_right : FuncData
  f__law_right : Fun K "_law_right" "_law_right" s__law_right a__law_right d__law_right
  g__law_right : mg "_law_right" = some (.ref a__law_right)
  a__law_great_right : Addr
  d__law_great_right : FuncData
  f__law_great_right : Fun K "_law_great_right" "_law_great_right" s__law_great_right a__law_great_right d__law_great_right
  g__law_great_right : mg "_law_great_right" = some (.ref a__law_great_right)
  a__law_clipped_right : Addr
  d__law_clipped_right : FuncData
  f__law_clipped_right : Fun K "_law_clipped_right" "_law_clipped_right" s__law_clipped_right a__law_clipped_right d__law_clipped_right
  g__law_clipped_right : mg "_law_clipped_right" = some (.ref a__law_clipped_right)
  a__law_room_right : Addr
  d__law_room_right : FuncData
  f__law_room_right : Fun K "_law_room_right" "_law_room_right" s__law_room_right a__law_room_right d__law_room_right
  g__law_room_right : mg "_law_room_right" = some (.ref a__law_room_right)
  a_law : Addr
  d_law : FuncData
  f_law : Fun K "law" "law" s_law a_law d_law
  g_law : mg "law" = some (.ref a_law)
  fI : Addr
  cI : Addr
  cdI : Addr
  dD : Addr
  dI : FuncData
  iT : InitT PR K mg s_init "WindowError.__init__" fI cI cdI dD dI
  c_WindowError : Addr
  e_WindowError : ErrC K fI dD c_WindowError
  g_WindowError : mg "WindowError" = some (.ref c_WindowError)
  c_InvalidNumber : Addr
  e_InvalidNumber : ErrC K fI dD c_InvalidNumber
  g_InvalidNumber : mg "InvalidNumber" = some (.ref c_InvalidNumber)
  x_InvalidNumber_InvalidNumber : PySem.W.exmOne K (.ref c_InvalidNumber) (.ref c_InvalidNumber) = some true
  z_zip : mg "zip" = none
  z_max : mg "max" = none
  z_min : mg "min" = none
  z_sum : mg "sum" = none
  z_len : mg "len" = none
  z_int : mg "int" = none
  z_range : mg "range" = none
  z_abs : mg "abs" = none
  z_isinstance : mg "isinstance" = none
  z_tuple : mg "tuple" = none
  z_sorted : mg "sorted" = none
theorem ok_init {w : World} {K : PySem.W.Frag} {mg : Str → Option Value} {base : Heap} (T : Txt K mg) : FnOk PR w K mg base CX0 1 T.fI T.dI ["self", "value"] (spErr K T.fI T.dD) := ok_err T.iT (NdefX.nscope_by (by decide +kernel)) rfl rfl rfl (fun env => rfl)
theorem b_init {K : PySem.W.Frag} {mg : Str → Option Value} (T : Txt K mg) : Binds K T.dI ["self", "value"] [] := by
  obtain ⟨oc, od, kV, doc, pm, an, ct, osl, e, lk⟩ := T.iT.ex
  rw [e]
  exact .all fun us hl => match us, hl with | [_, _], _ => rfl
theorem b_need_from {K : PySem.W.Frag} {mg : Str → Option Value} (T : Txt K mg) : Binds K T.d_need_from ["number", "least"] [] := T.f_need_from.binds (ps := ["number", "least"]) fun _ _ _ _ _ _ us hl => match us, hl with | [_, _], _ => rfl
theorem b_need_rooms {K : PySem.W.Frag} {mg : Str → Option Value} (T : Txt K mg) : Binds K T.d_need_rooms ["rooms"] [] := T.f_need_rooms.binds (ps := ["rooms"]) fun _ _ _ _ _ _ us hl => match us, hl with | [_], _ => rfl
theorem b_need_scrolls {K : PySem.W.Frag} {mg : Str → Option Value} (T : Txt K mg) : Binds K T.d_need_scrolls ["rooms", "scrolls"] [] := T.f_need_scrolls.binds (ps := ["rooms", "scrolls"]) fun _ _ _ _ _ _ us hl => match us, hl with | [_, _], _ => rfl
theorem b_between {K : PySem.W.Frag} {mg : Str → Option Value} (T : Txt K mg) : Binds K T.d_between ["number", "least", "greatest"] [] := T.f_between.binds (ps := ["number", "least", "greatest"]) fun _ _ _ _ _ _ us hl => match us, hl with | [_, _, _], _ => rfl
theorem b_room_for {K : PySem.W.Frag} {mg : Str → Option Value} (T : Txt K mg) : Binds K T.d_room_for ["lines", "height"] [] := T.f_room_for.binds (ps := ["lines", "height"]) fun _ _ _ _ _ _ us hl => match us, hl with | [_, _], _ => rfl
theorem b_room_of {K : PySem.W.Frag} {mg : Str → Option Value} (T : Txt K mg) : Binds K T.d_room_of ["lines", "height"] [] := T.f_room_of.binds (ps := ["lines", "height"]) fun _ _ _ _ _ _ us hl => match us, hl with | [_, _], _ => rfl
theorem b_after_turn {K : PySem.W.Frag} {mg : Str → Option Value} (T : Txt K mg) : Binds K T.d_after_turn ["rooms", "scrolls", "turn"] [] := T.f_after_turn.binds (ps := ["rooms", "scrolls", "turn"]) fun _ _ _ _ _ _ us hl => match us, hl with | [_, _, _], _ => rfl
theorem b_scrolls_after {K : PySem.W.Frag} {mg : Str → Option Value} (T : Txt K mg) : Binds K T.d_scrolls_after ["rooms", "scrolls", "turns"] [] := T.f_scrolls_after.binds (ps := ["rooms", "scrolls", "turns"]) fun _ _ _ _ _ _ us hl => match us, hl with | [_, _, _], _ => rfl
theorem b_turned_by {K : PySem.W.Frag} {mg : Str → Option Value} (T : Txt K mg) : Binds K T.d_turned_by ["rooms", "scrolls", "turns"] [] := T.f_turned_by.binds (ps := ["rooms", "scrolls", "turns"]) fun _ _ _ _ _ _ us hl => match us, hl with | [_, _, _], _ => rfl
theorem b_lost {K : PySem.W.Frag} {mg : Str → Option Value} (T : Txt K mg) : Binds K T.d_lost ["rooms", "scrolls", "turns"] [] := T.f_lost.binds (ps := ["rooms", "scrolls", "turns"]) fun _ _ _ _ _ _ us hl => match us, hl with | [_, _, _], _ => rfl
theorem b_clipped {K : PySem.W.Frag} {mg : Str → Option Value} (T : Txt K mg) : Binds K T.d_clipped ["rooms", "scrolls"] [] := T.f_clipped.binds (ps := ["rooms", "scrolls"]) fun _ _ _ _ _ _ us hl => match us, hl with | [_, _], _ => rfl
theorem b__law_jug {K : PySem.W.Frag} {mg : Str → Option Value} (T : Txt K mg) : Binds K T.d__law_jug ["_law_script", "_law_k"] [] := T.f__law_jug.binds (ps := ["_law_script", "_law_k"]) fun _ _ _ _ _ _ us hl => match us, hl with | [_, _], _ => rfl
theorem b__law_pour {K : PySem.W.Frag} {mg : Str → Option Value} (T : Txt K mg) : Binds K T.d__law_pour ["_law_jug_here", "_law_many"] [] := T.f__law_pour.binds (ps := ["_law_jug_here", "_law_many"]) fun _ _ _ _ _ _ us hl => match us, hl with | [_, _], _ => rfl
theorem b__law_turns {K : PySem.W.Frag} {mg : Str → Option Value} (T : Txt K mg) : Binds K T.d__law_turns ["_law_jug_here", "_law_most", "_law_size"] [] := T.f__law_turns.binds (ps := ["_law_jug_here", "_law_most", "_law_size"]) fun _ _ _ _ _ _ us hl => match us, hl with | [_, _, _], _ => rfl
theorem b__law_ticks {K : PySem.W.Frag} {mg : Str → Option Value} (T : Txt K mg) : Binds K T.d__law_ticks ["_law_rooms", "_law_scrolls", "_law_turns_here"] [] := T.f__law_ticks.binds (ps := ["_law_rooms", "_law_scrolls", "_law_turns_here"]) fun _ _ _ _ _ _ us hl => match us, hl with | [_, _, _], _ => rfl
theorem b__law_due {K : PySem.W.Frag} {mg : Str → Option Value} (T : Txt K mg) : Binds K T.d__law_due ["_law_rooms", "_law_scrolls"] [] := T.f__law_due.binds (ps := ["_law_rooms", "_law_scrolls"]) fun _ _ _ _ _ _ us hl => match us, hl with | [_, _], _ => rfl
theorem b__law_refused {K : PySem.W.Frag} {mg : Str → Option Value} (T : Txt K mg) : Binds K T.d__law_refused ["_law_word", "_law_rooms", "_law_scrolls", "_law_turns_here"] [] := T.f__law_refused.binds (ps := ["_law_word", "_law_rooms", "_law_scrolls", "_law_turns_here"]) fun _ _ _ _ _ _ us hl => match us, hl with | [_, _, _, _], _ => rfl
theorem b__law_right {K : PySem.W.Frag} {mg : Str → Option Value} (T : Txt K mg) : Binds K T.d__law_right ["_law_rooms", "_law_scrolls", "_law_turns_here", "_law_width"] [] := T.f__law_right.binds (ps := ["_law_rooms", "_law_scrolls", "_law_turns_here", "_law_width"]) fun _ _ _ _ _ _ us hl => match us, hl with | [_, _, _, _], _ => rfl
theorem b__law_great_right {K : PySem.W.Frag} {mg : Str → Option Value} (T : Txt K mg) : Binds K T.d__law_great_right ["_law_jug_here"] [] := T.f__law_great_right.binds (ps := ["_law_jug_here"]) fun _ _ _ _ _ _ us hl => match us, hl with | [_], _ => rfl
theorem b__law_clipped_right {K : PySem.W.Frag} {mg : Str → Option Value} (T : Txt K mg) : Binds K T.d__law_clipped_right ["_law_rooms", "_law_scrolls", "_law_width"] [] := T.f__law_clipped_right.binds (ps := ["_law_rooms", "_law_scrolls", "_law_width"]) fun _ _ _ _ _ _ us hl => match us, hl with | [_, _, _], _ => rfl
theorem b__law_room_right {K : PySem.W.Frag} {mg : Str → Option Value} (T : Txt K mg) : Binds K T.d__law_room_right ["_law_jug_here"] [] := T.f__law_room_right.binds (ps := ["_law_jug_here"]) fun _ _ _ _ _ _ us hl => match us, hl with | [_], _ => rfl
theorem b_law {K : PySem.W.Frag} {mg : Str → Option Value} (T : Txt K mg) : Binds K T.d_law ["_law_script"] [] := T.f_law.binds (ps := ["_law_script"]) fun _ _ _ _ _ _ us hl => match us, hl with | [_], _ => rfl
theorem kb_lost_0_turns_rooms_scrolls {K : PySem.W.Frag} {mg : Str → Option Value} (T : Txt K mg) : KBinds K T.d_lost ["rooms", "scrolls", "turns"] ["turns", "rooms", "scrolls"] (kg 0 3 [1, 2, 0]) (kg 0 3 [1, 2, 0]) := kbinds 0 3 [1, 2, 0] T.f_lost (by decide) fun _ _ _ _ _ _ us ws h1 h2 => match us, h1, ws, h2 with | [], _, [_, _, _], _ => rfl
theorem kb_turned_by_0_turns_scrolls_rooms {K : PySem.W.Frag} {mg : Str → Option Value} (T : Txt K mg) : KBinds K T.d_turned_by ["rooms", "scrolls", "turns"] ["turns", "scrolls", "rooms"] (kg 0 3 [2, 1, 0]) (kg 0 3 [2, 1, 0]) := kbinds 0 3 [2, 1, 0] T.f_turned_by (by decide) fun _ _ _ _ _ _ us ws h1 h2 => match us, h1, ws, h2 with | [], _, [_, _, _], _ => rfl
theorem kb_clipped_0_scrolls_rooms {K : PySem.W.Frag} {mg : Str → Option Value} (T : Txt K mg) : KBinds K T.d_clipped ["rooms", "scrolls"] ["scrolls", "rooms"] (kg 0 2 [1, 0]) (kg 0 2 [1, 0]) := kbinds 0 2 [1, 0] T.f_clipped (by decide) fun _ _ _ _ _ _ us ws h1 h2 => match us, h1, ws, h2 with | [], _, [_, _], _ => rfl
theorem kb_room_of_0_height_lines {K : PySem.W.Frag} {mg : Str → Option Value} (T : Txt K mg) : KBinds K T.d_room_of ["lines", "height"] ["height", "lines"] (kg 0 2 [1, 0]) (kg 0 2 [1, 0]) := kbinds 0 2 [1, 0] T.f_room_of (by decide) fun _ _ _ _ _ _ us ws h1 h2 => match us, h1, ws, h2 with | [], _, [_, _], _ => rfl
end K34
set_option Elab.async false
set_option maxRecDepth 100000
set_option maxHeartbeats 4000000
set_option linter.unusedVariables false
/-! K34: turns of window and page, in plain Lean. -/
namespace K34
def mn (i j : Int) : Int := if j < i then j else i
def mx (i j : Int) : Int := if j > i then j else i
/-- both rooms, or both scrolls -/
abbrev Two := Int × Int
def aft (R : Two) (t : Int) (S : Two) : Two :=
  if t > 0 then (S.1 + mn t (R.1 - S.1), mn R.2 (S.2 + t - mn t (R.1 - S.1)))
  else (S.1 - mn (0 - t) S.1, mx 0 (S.2 + t + mn (0 - t) S.1))
/-- within the rooms -/
def Ok (R S : Two) : Prop := 0 ≤ S.1 ∧ S.1 ≤ R.1 ∧ 0 ≤ S.2 ∧ S.2 ≤ R.2
theorem aft_ok {R S : Two} (h : Ok R S) (t : Int) : Ok R (aft R t S) := by
  obtain ⟨h1, h2, h3, h4⟩ := h
  unfold aft Ok
  split
  · dsimp only [mn]
    split <;> split <;> omega
  · dsimp only [mn, mx]
    split <;> split <;> omega
def after (R S : Two) (ts : List Int) : Two := ts.foldl (fun S t => aft R t S) S
theorem after_ok {R : Two} : ∀ (ts : List Int) {S : Two}, Ok R S → Ok R (after R S ts)
  | [], _, h => h
  | t :: ts, S, h => after_ok ts (aft_ok h t)
theorem after_app (R S : Two) (ts : List Int) (t : Int) : after R S (ts ++ [t]) = aft R t (after R S ts) := by
  unfold after
  rw [List.foldl_append]
  rfl
def sm (S : Two) : Int := S.1 + S.2
/-- what is lost, downward and upward: a step of (here, down, up) -/
def lstep (R : Two) (x : Two × Two) (t : Int) : Two × Two :=
  (aft R t x.1, if t > 0 then (x.2.1 + t - (sm (aft R t x.1) - sm x.1), x.2.2) else (x.2.1, x.2.2 + (sm (aft R t x.1) - sm x.1) - t))
def lose (R S : Two) (ts : List Int) : Two × Two := ts.foldl (lstep R) (S, (0, 0))
theorem lose_app (R S : Two) (ts : List Int) (t : Int) : lose R S (ts ++ [t]) = lstep R (lose R S ts) t := by
  unfold lose
  rw [List.foldl_append]
  rfl
theorem lose_fst (R : Two) : ∀ (ts : List Int) (x : Two × Two), (ts.foldl (lstep R) x).1 = after R x.1 ts
  | [], _ => rfl
  | t :: ts, x => lose_fst R ts (lstep R x t)
theorem lose_here (R S : Two) (ts : List Int) : (lose R S ts).1 = after R S ts := lose_fst R ts (S, (0, 0))
/-! ### one tick -/
theorem aft_zero {R S : Two} (h : Ok R S) : aft R 0 S = S := by
  obtain ⟨h1, h2, h3, h4⟩ := h
  unfold aft
  rw [if_neg (by omega)]
  obtain ⟨a, b⟩ := S
  dsimp only [mn, mx] at *
  rw [Prod.mk.injEq]
  constructor
  · split <;> omega
  · split <;> split <;> omega
theorem aft_dn {R S : Two} (h : Ok R S) {t : Int} (ht : 0 ≤ t) : ∃ w p, aft R t S = (w, p) ∧ ((S.1 + t ≤ R.1 ∧ w = S.1 + t ∧ p = S.2) ∨ (R.1 < S.1 + t ∧ w = R.1 ∧ ((S.2 + (S.1 + t - R.1) ≤ R.2 ∧ p = S.2 + (S.1 + t - R.1)) ∨ (R.2 < S.2 + (S.1 + t - R.1) ∧ p = R.2)))) := by
  by_cases h0 : t = 0
  · subst h0
    rw [aft_zero h]
    obtain ⟨h1, h2, h3, h4⟩ := h
    exact ⟨S.1, S.2, rfl, by omega⟩
  · obtain ⟨h1, h2, h3, h4⟩ := h
    unfold aft
    rw [if_pos (by omega)]
    refine ⟨_, _, rfl, ?_⟩
    unfold mn
    by_cases c : R.1 - S.1 < t
    · rw [if_pos c]
      split <;> omega
    · rw [if_neg c]
      split <;> omega
theorem aft_up {R S : Two} (h : Ok R S) {t : Int} (ht : t ≤ 0) : ∃ w p, aft R t S = (w, p) ∧ ((0 ≤ S.1 + t ∧ w = S.1 + t ∧ p = S.2) ∨ (S.1 + t < 0 ∧ w = 0 ∧ ((0 ≤ S.2 + (S.1 + t) ∧ p = S.2 + (S.1 + t)) ∨ (S.2 + (S.1 + t) < 0 ∧ p = 0)))) := by
  obtain ⟨h1, h2, h3, h4⟩ := h
  unfold aft
  rw [if_neg (by omega)]
  refine ⟨_, _, rfl, ?_⟩
  unfold mn mx
  by_cases c : S.1 < 0 - t
  · rw [if_pos c]
    split <;> omega
  · rw [if_neg c]
    split <;> omega
/-- a tick downward -/
theorem tick_down {R S : Two} (h : Ok R S) {i : Int} (hi : 0 ≤ i) : aft R (i + 1) S =
    (if (aft R i S).1 < R.1 then ((aft R i S).1 + 1, (aft R i S).2) else if (aft R i S).2 < R.2 then ((aft R i S).1, (aft R i S).2 + 1) else aft R i S) := by
  obtain ⟨w, p, e, c⟩ := aft_dn h hi
  obtain ⟨w', p', e', c'⟩ := aft_dn h (show 0 ≤ i + 1 by omega)
  obtain ⟨h1, h2, h3, h4⟩ := h
  rw [e, e']
  dsimp only
  by_cases c1 : w < R.1
  · rw [if_pos c1, Prod.mk.injEq]
    omega
  · rw [if_neg c1]
    by_cases c2 : p < R.2
    · rw [if_pos c2, Prod.mk.injEq]
      omega
    · rw [if_neg c2, Prod.mk.injEq]
      omega
/-- a tick upward -/
theorem tick_up {R S : Two} (h : Ok R S) {i : Int} (hi : 0 ≤ i) : aft R (0 - (i + 1)) S =
    (if (aft R (0 - i) S).1 > 0 then ((aft R (0 - i) S).1 - 1, (aft R (0 - i) S).2) else if (aft R (0 - i) S).2 > 0 then ((aft R (0 - i) S).1, (aft R (0 - i) S).2 - 1) else aft R (0 - i) S) := by
  obtain ⟨w, p, e, c⟩ := aft_up h (show 0 - i ≤ 0 by omega)
  obtain ⟨w', p', e', c'⟩ := aft_up h (show 0 - (i + 1) ≤ 0 by omega)
  obtain ⟨h1, h2, h3, h4⟩ := h
  rw [e, e']
  dsimp only
  by_cases c1 : w > 0
  · rw [if_pos c1, Prod.mk.injEq]
    omega
  · rw [if_neg c1]
    by_cases c2 : p > 0
    · rw [if_pos c2, Prod.mk.injEq]
      omega
    · rw [if_neg c2, Prod.mk.injEq]
      omega
/-! ### all numbers so many times as great -/
def mul (k : Int) (S : Two) : Two := (k * S.1, k * S.2)
theorem mul_lt_iff {k a b : Int} (hk : 0 < k) : (k * a < k * b) ↔ a < b := ⟨fun h => Int.lt_of_mul_lt_mul_left h (by omega), fun h => Int.mul_lt_mul_of_pos_left h hk⟩
theorem mn_mul {k : Int} (hk : 0 < k) (a b : Int) : mn (k * a) (k * b) = k * mn a b := by
  unfold mn
  by_cases h : b < a
  · rw [if_pos h, if_pos ((mul_lt_iff hk).mpr h)]
  · rw [if_neg h, if_neg (fun q => h ((mul_lt_iff hk).mp q))]
theorem mx_mul {k : Int} (hk : 0 < k) (a b : Int) : mx (k * a) (k * b) = k * mx a b := by
  unfold mx
  by_cases h : b > a
  · rw [if_pos h, if_pos ((mul_lt_iff hk).mpr h)]
  · rw [if_neg h, if_neg (fun q => h ((mul_lt_iff hk).mp q))]
theorem mul_gt {k t : Int} (hk : 0 < k) : (k * t > 0) ↔ t > 0 := by
  have := mul_lt_iff (k := k) (a := 0) (b := t) hk
  rw [Int.mul_zero] at this
  exact this
theorem aft_mul {k : Int} (hk : 0 < k) (R S : Two) (t : Int) : aft (mul k R) (k * t) (mul k S) = mul k (aft R t S) := by
  unfold aft mul
  by_cases h : t > 0
  · rw [if_pos h, if_pos ((mul_gt hk).mpr h)]
    dsimp only
    rw [← Int.mul_sub, mn_mul hk, ← Int.mul_add, ← Int.mul_add, ← Int.mul_sub, mn_mul hk]
  · rw [if_neg h, if_neg (fun q => h ((mul_gt hk).mp q))]
    dsimp only
    have e0 : (0 : Int) - k * t = k * (0 - t) := by rw [Int.mul_sub, Int.mul_zero]
    rw [e0, mn_mul hk, ← Int.mul_add, ← Int.mul_add, ← Int.mul_sub]
    have e1 := mx_mul hk 0 (S.2 + t + mn (0 - t) S.1)
    rw [Int.mul_zero] at e1
    rw [e1]
theorem after_mul {k : Int} (hk : 0 < k) (R : Two) : ∀ (ts : List Int) (S : Two), after (mul k R) (mul k S) (ts.map (k * ·)) = mul k (after R S ts)
  | [], _ => rfl
  | t :: ts, S => by
    show after (mul k R) (aft (mul k R) (k * t) (mul k S)) (ts.map (k * ·)) = mul k (after R (aft R t S) ts)
    rw [aft_mul hk, after_mul hk R ts]
theorem sm_mul (k : Int) (S : Two) : sm (mul k S) = k * sm S := by
  unfold sm mul
  rw [Int.mul_add]
theorem lstep_mul {k : Int} (hk : 0 < k) (R : Two) (x : Two × Two) (t : Int) : lstep (mul k R) (mul k x.1, mul k x.2) (k * t) = (mul k (lstep R x t).1, mul k (lstep R x t).2) := by
  unfold lstep
  dsimp only
  rw [aft_mul hk, sm_mul, sm_mul]
  by_cases h : t > 0
  · rw [if_pos h, if_pos ((mul_gt hk).mpr h)]
    unfold mul
    dsimp only
    rw [← Int.mul_sub, ← Int.mul_add, ← Int.mul_sub]
  · rw [if_neg h, if_neg (fun q => h ((mul_gt hk).mp q))]
    unfold mul
    dsimp only
    rw [← Int.mul_sub, ← Int.mul_add, ← Int.mul_sub]
theorem fold_mul {k : Int} (hk : 0 < k) (R : Two) : ∀ (ts : List Int) (x : Two × Two), (ts.map (k * ·)).foldl (lstep (mul k R)) (mul k x.1, mul k x.2) = (mul k (ts.foldl (lstep R) x).1, mul k (ts.foldl (lstep R) x).2)
  | [], _ => rfl
  | t :: ts, x => by
    show (ts.map (k * ·)).foldl (lstep (mul k R)) (lstep (mul k R) (mul k x.1, mul k x.2) (k * t)) = _
    rw [lstep_mul hk, fold_mul hk R ts]
    rfl
theorem lose_mul {k : Int} (hk : 0 < k) (R S : Two) (ts : List Int) : (lose (mul k R) (mul k S) (ts.map (k * ·))).2 = mul k (lose R S ts).2 := by
  have h := fold_mul hk R ts (S, (0, 0))
  have e0 : mul k ((0 : Int), (0 : Int)) = (0, 0) := by
    unfold mul
    simp
  unfold lose
  rw [show (mul k S, ((0 : Int), (0 : Int))) = (mul k (S, ((0 : Int), (0 : Int))).1, mul k (S, ((0 : Int), (0 : Int))).2) from by rw [e0], h]
/-! ### the middle one of three -/
def mid (lo t hi : Int) : Int := if t < lo then lo else if hi < t then hi else t
theorem perm_sum {l l' : List Int} (h : l.Perm l') : l.sum = l'.sum := by
  induction h with
  | nil => rfl
  | cons a _ ih => rw [List.sum_cons, List.sum_cons, ih]
  | swap a b l =>
    simp only [List.sum_cons]
    omega
  | trans _ _ h1 h2 => exact h1.trans h2
theorem mid_of {lo t hi : Int} {ns : List Int} (hp : ns.Perm [lo, t, hi]) (hs : ns.Pairwise (· ≤ ·)) (h : lo ≤ hi) : ∃ x z, ns = [x, mid lo t hi, z] := by
  have hl : ns.length = 3 := hp.length_eq
  match ns, hl with
  | [x, y, z], _ =>
    have hsum : [x, y, z].sum = [lo, t, hi].sum := perm_sum hp
    simp only [List.sum_cons, List.sum_nil] at hsum
    have hxy : x ≤ y ∧ x ≤ z ∧ y ≤ z := by
      simp at hs
      omega
    have mem : ∀ a, a ∈ [x, y, z] ↔ a ∈ [lo, t, hi] := fun a => hp.mem_iff
    have m1 : lo = x ∨ lo = y ∨ lo = z := by simpa using (mem lo).mpr (by simp)
    have m2 : t = x ∨ t = y ∨ t = z := by simpa using (mem t).mpr (by simp)
    have m3 : hi = x ∨ hi = y ∨ hi = z := by simpa using (mem hi).mpr (by simp)
    have m4 : x = lo ∨ x = t ∨ x = hi := by simpa using (mem x).mp (by simp)
    have m5 : z = lo ∨ z = t ∨ z = hi := by simpa using (mem z).mp (by simp)
    refine ⟨x, z, ?_⟩
    have e : y = mid lo t hi := by
      unfold mid
      split
      · omega
      · split <;> omega
    rw [e]
theorem mid_clip {lo t hi : Int} (h : lo ≤ hi) : mid lo t hi = mx lo (mn hi t) := by
  unfold mid mx mn
  split <;> split <;> (try split) <;> omega
theorem mid_cases {lo hi : Int} (t : Int) (h : lo ≤ hi) : (t < lo ∧ mid lo t hi = lo) ∨ (hi < t ∧ mid lo t hi = hi) ∨ (lo ≤ t ∧ t ≤ hi ∧ mid lo t hi = t) := by
  unfold mid
  split
  · omega
  · split <;> omega
/-- a turn by the middle ones -/
theorem aft_mid {R S : Two} (h : Ok R S) (t : Int) : aft R t S = (S.1 + mid (0 - S.1) t (R.1 - S.1), S.2 + mid (0 - S.2) (t - mid (0 - S.1) t (R.1 - S.1)) (R.2 - S.2)) := by
  have hh := h
  obtain ⟨h1, h2, h3, h4⟩ := hh
  have m1 := mid_cases (lo := 0 - S.1) (hi := R.1 - S.1) t (by omega)
  have m2 := mid_cases (lo := 0 - S.2) (hi := R.2 - S.2) (t - mid (0 - S.1) t (R.1 - S.1)) (by omega)
  by_cases c : 0 ≤ t
  · obtain ⟨w, p, e, c⟩ := aft_dn h c
    rw [e, Prod.mk.injEq]
    omega
  · obtain ⟨w, p, e, c⟩ := aft_up h (show t ≤ 0 by omega)
    rw [e, Prod.mk.injEq]
    omega
def abI (n : Int) : Int := if n < 0 then -n else n
theorem lstep_mid {R : Two} {x : Two × Two} (h : Ok R x.1) (t : Int) {own more : Int} (e1 : own = mid (0 - x.1.1) t (R.1 - x.1.1)) (e2 : more = mid (0 - x.1.2) (t - own) (R.2 - x.1.2)) :
    lstep R x t = ((x.1.1 + own, x.1.2 + more), if t < 0 then (x.2.1, x.2.2 + abI (t - own - more)) else (x.2.1 + abI (t - own - more), x.2.2)) := by
  have ea : aft R t x.1 = (x.1.1 + own, x.1.2 + more) := by
    rw [aft_mid h, ← e1, ← e2]
  have hb : aft R t x.1 = (x.1.1 + own, x.1.2 + more) ∧ ((0 ≤ t → 0 ≤ t - own - more ∧ (t = 0 → own + more = 0)) ∧ (t < 0 → t - own - more ≤ 0)) := by
    refine ⟨ea, ?_⟩
    obtain ⟨h1, h2, h3, h4⟩ := h
    have m1 := mid_cases (lo := 0 - x.1.1) (hi := R.1 - x.1.1) t (by omega)
    have m2 := mid_cases (lo := 0 - x.1.2) (hi := R.2 - x.1.2) (t - own) (by omega)
    rw [← e1] at m1
    rw [← e2] at m2
    omega
  obtain ⟨_, h5, h6⟩ := hb
  unfold lstep
  rw [ea]
  dsimp only [sm]
  rw [Prod.mk.injEq]
  refine ⟨rfl, ?_⟩
  unfold abI
  by_cases c1 : t > 0
  · rw [if_pos c1, if_neg (show ¬ t < 0 by omega)]
    have := h5 (by omega)
    rw [Prod.mk.injEq]
    refine ⟨?_, rfl⟩
    split <;> omega
  · rw [if_neg c1]
    by_cases c2 : t < 0
    · rw [if_pos c2, Prod.mk.injEq]
      have := h6 c2
      refine ⟨rfl, ?_⟩
      split <;> omega
    · rw [if_neg c2]
      have := h5 (by omega)
      have h7 := this.2 (by omega)
      rw [Prod.mk.injEq]
      constructor
      · split <;> omega
      · omega
end K34
set_option Elab.async false
set_option linter.all false
set_option maxRecDepth 100000
set_option maxHeartbeats 4000000
namespace K34
open PySem L2 My
theorem at0 {α : Type} {a : α} {l : List α} : atI (a :: l) 0 = some a := atI_nat (j := 0) rfl
theorem at1 {α : Type} {a b : α} {l : List α} : atI (a :: b :: l) 1 = some b := atI_nat (j := 1) rfl
theorem at2 {α : Type} {a b c : α} {l : List α} : atI (a :: b :: c :: l) 2 = some c := atI_nat (j := 2) rfl
theorem _root_.My.Raised.mono {C : Addr} {v : V} {H H1 : Hp} {E : XK} (e : Ex H H1) (h : Raised C v H E) : Raised C v H1 E := fun d H' hd e' hx => h d H' (Evl.fresh_back e hd) (e.trans e') hx
/-- a tuple of two ints -/
abbrev t2 (S : Two) : List V := [.int S.1, .int S.2]
theorem mapI_get {ts : List Int} {i : Nat} {x : V} (h : (ts.map V.int)[i]? = some x) : ∃ t, ts[i]? = some t ∧ x = V.int t := by
  rw [List.getElem?_map] at h
  cases e : ts[i]? with
  | none =>
    rw [e] at h
    cases h
  | some t =>
    rw [e] at h
    exact ⟨t, rfl, (Option.some.inj h).symm⟩
theorem take_next {α : Type} {l : List α} {i : Nat} {x : α} (h : l[i]? = some x) : l.take (i + 1) = l.take i ++ [x] := by
  rw [List.take_add_one, h]
  rfl
def sp_need_from (C : Addr) : Sp := fun vs H Q E => ∃ n l : Int, vs = [.int n, .int l] ∧ (l ≤ n → Q .non H) ∧ (n < l → Raised C (.int n) H E)
def sp_need_rooms (K : PySem.W.Frag) (C : Addr) : Sp := fun vs H Q E => ∃ (a : Addr) (R : Two), vs = [.ref a] ∧ SqT K H a (t2 R) ∧ (0 ≤ R.1 → 0 ≤ R.2 → Q .non H) ∧ (R.1 < 0 → Raised C (.int R.1) H E) ∧ (0 ≤ R.1 → R.2 < 0 → Raised C (.int R.2) H E)
def sp_need_scrolls (K : PySem.W.Frag) (C : Addr) : Sp := fun vs H Q E => ∃ (a b : Addr) (R S : Two), vs = [.ref a, .ref b] ∧ SqT K H a (t2 R) ∧ SqT K H b (t2 S) ∧ (Ok R S → Evl.RetV .non H Q) ∧
  (¬ (0 ≤ S.1 ∧ S.1 ≤ R.1) → Raised C (.int S.1) H E) ∧ (0 ≤ S.1 → S.1 ≤ R.1 → ¬ (0 ≤ S.2 ∧ S.2 ≤ R.2) → Raised C (.int S.2) H E)
def sp_between : Sp := fun vs H Q _ => ∃ n l g : Int, vs = [.int n, .int l, .int g] ∧ Q (.int (mx l (mn g n))) H
def sp_room_for : Sp := fun vs H Q _ => ∃ n h : Int, vs = [.int n, .int h] ∧ Q (.int (mx 0 (n - h))) H
def sp_room_of (C : Addr) : Sp := fun vs H Q E => ∃ n h : Int, vs = [.int n, .int h] ∧ (0 ≤ n → 1 ≤ h → Q (.int (mx 0 (n - h))) H) ∧ (n < 0 → Raised C (.int n) H E) ∧ (0 ≤ n → h < 1 → Raised C (.int h) H E)
def sp_after_turn (K : PySem.W.Frag) : Sp := fun vs H Q _ => ∃ (a b : Addr) (R S : Two) (t : Int), vs = [.ref a, .ref b, .int t] ∧ SqT K H a (t2 R) ∧ SqT K H b (t2 S) ∧ New (.tup (t2 (aft R t S))) H Q
def sp_scrolls_after (K : PySem.W.Frag) : Sp := fun vs H Q _ => ∃ (a b c : Addr) (R S : Two) (ts : List Int), vs = [.ref a, .ref b, .ref c] ∧ SqT K H a (t2 R) ∧ SqT K H b (t2 S) ∧ SqL K H c (ts.map V.int) ∧
  ∀ p H', Ex H H' → SqT K H' p (t2 (after R S ts)) → Q (.ref p) H'
/-- turned_by, lost: what all three arguments must be -/
def spTurns (K : PySem.W.Frag) (C : Addr) (res : Two → Two → List Int → Two) : Sp := fun vs H Q E => ∃ (a b c : Addr) (R S : Two) (ts : List Int), vs = [.ref a, .ref b, .ref c] ∧ SqT K H a (t2 R) ∧ SqT K H b (t2 S) ∧ SqL K H c (ts.map V.int) ∧
  (0 ≤ R.1 → 0 ≤ R.2 → Ok R S → New (.tup (t2 (res R S ts))) H Q) ∧ (R.1 < 0 → Raised C (.int R.1) H E) ∧ (0 ≤ R.1 → R.2 < 0 → Raised C (.int R.2) H E) ∧
  (0 ≤ R.1 → 0 ≤ R.2 → ¬ (0 ≤ S.1 ∧ S.1 ≤ R.1) → Raised C (.int S.1) H E) ∧ (0 ≤ R.1 → 0 ≤ R.2 → 0 ≤ S.1 → S.1 ≤ R.1 → ¬ (0 ≤ S.2 ∧ S.2 ≤ R.2) → Raised C (.int S.2) H E)
abbrev sp_turned_by (K : PySem.W.Frag) (C : Addr) : Sp := spTurns K C after
abbrev sp_lost (K : PySem.W.Frag) (C : Addr) : Sp := spTurns K C fun R S ts => (lose R S ts).2
def clip (R S : Two) : Two := (mx 0 (mn R.1 S.1), mx 0 (mn R.2 S.2))
def sp_clipped (K : PySem.W.Frag) (C : Addr) : Sp := fun vs H Q E => ∃ (a b : Addr) (R S : Two), vs = [.ref a, .ref b] ∧ SqT K H a (t2 R) ∧ SqT K H b (t2 S) ∧
  (0 ≤ R.1 → 0 ≤ R.2 → New (.tup (t2 (clip R S))) H Q) ∧ (R.1 < 0 → Raised C (.int R.1) H E) ∧ (0 ≤ R.1 → R.2 < 0 → Raised C (.int R.2) H E)
section
variable {w : World} {K : PySem.W.Frag} {mg : Str → Option Value} {base : Heap}
theorem ok_need_from (T : Txt K mg) : FnOk PR w K mg base (L2.CX PR w) 3 T.a_need_from T.d_need_from ["number", "least"] (sp_need_from T.c_InvalidNumber) := by
  refine T.f_need_from.okX sc_need_from (fun vs H Q E h => ?_) (fun cdv A outer s H vs Q E hr h => ?_)
  · obtain ⟨n, l, rfl, _⟩ := h
    rfl
  · obtain ⟨n, l, rfl, k1, k2⟩ := h
    refine ⟨_, (pss_one (ps_if (pt_cmpR op_lt (pv 0) (pv 1) (nomark _)) (pss_one (ps_raise rfl (takes_of rfl rfl rfl rfl) (pmk_err (ok_init T) (b_init T) T.e_InvalidNumber (hr.mono (by decide)) (by rfl) T.g_InvalidNumber (pa_cons (pv 0) pa_nil)))) pss_nil)), ?_⟩
    refine ⟨_, rfl, _, rfl, _, _, rfl, rfl, _, rfl, ?_⟩
    refine ifB (fun c => ?_) (fun c => ?_)
    · exact ⟨_, rfl, _, rfl, k2 (of_decide_eq_true c)⟩
    · exact k1 (by have := of_decide_eq_false c; omega)
theorem ok_need_rooms (T : Txt K mg) : FnOk PR w K mg base (L2.CX PR w) 4 T.a_need_rooms T.d_need_rooms ["rooms"] (sp_need_rooms K T.c_InvalidNumber) := by
  refine T.f_need_rooms.okX sc_need_rooms (fun vs H Q E h => ?_) (fun cdv A outer s H vs Q E hr h => ?_)
  · obtain ⟨a, R, rfl, _⟩ := h
    rfl
  · obtain ⟨a, R, rfl, ha, k0, k1, k2⟩ := h
    refine ⟨_, (pss_one (ps_for (passes_of rfl) rfl (pi_tup (pv 0)) (pg_name (i := 1) sc_need_rooms.nd rfl (by first | exact Or.inl rfl | exact Or.inr rfl)) (pss_one (ps_expr (pe_call (ok_need_from T) (hr.mono (by decide)) (by rfl) T.g_need_from T.f_need_from.kp (b_need_from T) .nil passX (pa_cons (pv 1) (pa_cons pe_int pa_nil))))))), ?_⟩
    refine ⟨_, rfl, a, rfl, ⟨_, ha⟩, for_tup (K := K) (a := a) (xs := t2 R) (fun i σ H' => ∃ v, σ = [some (.ref a), v] ∧ H' = H ∧ (0 < i → 0 ≤ R.1) ∧ (1 < i → 0 ≤ R.2)) ⟨_, rfl, rfl, fun z => by omega, fun z => by omega⟩ (fun i σ H' _ ⟨_, _, e, _⟩ => by rw [e]; exact ha) ?_ ?_⟩
    · rintro i x σ H' hi ⟨v, rfl, rfl, h1, h2⟩
      match i, hi with
      | 0, hi =>
        have e : V.int R.1 = x := Option.some.inj hi
        subst e
        refine ⟨_, rfl, R.1, 0, rfl, fun c => ⟨_, rfl, rfl, fun _ => c, fun z => by omega⟩, fun c => k1 c⟩
      | 1, hi =>
        have e : V.int R.2 = x := Option.some.inj hi
        subst e
        have h0 := h1 (by omega)
        refine ⟨_, rfl, R.2, 0, rfl, fun c => ⟨_, rfl, rfl, fun _ => h0, fun _ => c⟩, fun c => k2 h0 c⟩
    · rintro σ H' ⟨v, rfl, rfl, h1, h2⟩
      exact k0 (h1 (by show 0 < 2; omega)) (h2 (by show 1 < 2; omega))
theorem ok_need_scrolls (T : Txt K mg) : FnOk PR w K mg base (L2.CX PR w) 3 T.a_need_scrolls T.d_need_scrolls ["rooms", "scrolls"] (sp_need_scrolls K T.c_InvalidNumber) := by
  refine T.f_need_scrolls.okX sc_need_scrolls (fun vs H Q E h => ?_) (fun cdv A outer s H vs Q E hr h => ?_)
  · obtain ⟨a, b, R, S, rfl, _⟩ := h
    rfl
  · obtain ⟨a, b, R, S, rfl, ha, hb, k0, k1, k2⟩ := h
    refine ⟨_, (pss_one (ps_for (passes_of rfl) rfl (RZ.pi_zipA (by rfl) T.z_zip (pa_cons (pv 0) (pa_cons (pv 1) pa_nil))) (pg_tup rfl (pgs_cons (pg_name (i := 2) sc_need_scrolls.nd rfl (by first | exact Or.inl rfl | exact Or.inr rfl)) (pgs_cons (pg_name (i := 3) sc_need_scrolls.nd rfl (by first | exact Or.inl rfl | exact Or.inr rfl)) pgs_nil))) (pss_one (ps_if (PW.pt (pw_or (pt_cmpR op_lt (pv 3) pe_int (nomark _)) (pw_or1 (pt_cmpR op_gt (pv 3) (pv 2) (nomark _))))) (pss_one (ps_raise rfl (takes_of rfl rfl rfl rfl) (pmk_err (ok_init T) (b_init T) T.e_InvalidNumber (hr.mono (by decide)) (by rfl) T.g_InvalidNumber (pa_cons (pv 3) pa_nil)))) pss_nil)))), ?_⟩
    refine ⟨_, rfl, _, rfl, a, b, _, _, rfl, .inr ⟨ha, hb, RZ.for_zipT (K := K) (a := a) (b := b) (xs := t2 R) (ys := t2 S) rfl (fun i σ H' => ∃ u v, σ = [some (.ref a), some (.ref b), u, v] ∧ Ex H H' ∧ (0 < i → 0 ≤ S.1 ∧ S.1 ≤ R.1) ∧ (1 < i → 0 ≤ S.2 ∧ S.2 ≤ R.2))
      ⟨_, _, rfl, Evl.Ex.refl _, fun z => by omega, fun z => by omega⟩ (fun i σ H' ⟨_, _, _, e, _⟩ => ⟨Evl.ex_t e ha, Evl.ex_t e hb⟩) ?_ ?_⟩⟩
    · rintro i x y p σ H' hx hy ⟨u, v, rfl, e, h1, h2⟩ np
      have e2 : Ex H (upd H' p (.tup [x, y])) := e.trans (Evl.Ex.new np)
      have hp : upd H' p (.tup [x, y]) p = some (.tup [x, y]) := upd_same
      generalize upd H' p (.tup [x, y]) = H2 at e2 hp ⊢
      refine ⟨_, _, rfl, sqT hp, rfl, _, _, rfl, _, _, rfl, rfl, ?_⟩
      match i, hx, hy with
      | 0, hx, hy =>
        have ex : V.int R.1 = x := Option.some.inj hx
        have ey : V.int S.1 = y := Option.some.inj hy
        subst ex
        subst ey
        refine ⟨_, rfl, _, _, rfl, rfl, _, rfl, ?_⟩
        refine ifB (fun c => ?_) (fun c => ?_)
        · exact ⟨_, rfl, _, rfl, (k1 (by have := of_decide_eq_true c; omega)).mono e2⟩
        · have c' := of_decide_eq_false c
          refine ⟨_, rfl, _, rfl, _, _, rfl, rfl, _, rfl, ?_⟩
          refine ifB (fun d => ?_) (fun d => ?_)
          · exact ⟨_, rfl, _, rfl, (k1 (by have := of_decide_eq_true d; omega)).mono e2⟩
          · have d' := of_decide_eq_false d
            exact ⟨_, _, rfl, e2, fun _ => by omega, fun z => by omega⟩
      | 1, hx, hy =>
        have ex : V.int R.2 = x := Option.some.inj hx
        have ey : V.int S.2 = y := Option.some.inj hy
        subst ex
        subst ey
        obtain ⟨g1, g2⟩ := h1 (by omega)
        refine ⟨_, rfl, _, _, rfl, rfl, _, rfl, ?_⟩
        refine ifB (fun c => ?_) (fun c => ?_)
        · exact ⟨_, rfl, _, rfl, (k2 g1 g2 (by have := of_decide_eq_true c; omega)).mono e2⟩
        · have c' := of_decide_eq_false c
          refine ⟨_, rfl, _, rfl, _, _, rfl, rfl, _, rfl, ?_⟩
          refine ifB (fun d => ?_) (fun d => ?_)
          · exact ⟨_, rfl, _, rfl, (k2 g1 g2 (by have := of_decide_eq_true d; omega)).mono e2⟩
          · have d' := of_decide_eq_false d
            exact ⟨_, _, rfl, e2, fun _ => ⟨g1, g2⟩, fun _ => by omega⟩
    · rintro σ H' ⟨u, v, rfl, e, h1, h2⟩
      have g1 := h1 (by show 0 < 2; omega)
      have g2 := h2 (by show 1 < 2; omega)
      exact k0 ⟨g1.1, g1.2, g2.1, g2.2⟩ H' e
theorem ok_between (T : Txt K mg) : FnOk PR w K mg base CX0 1 T.a_between T.d_between ["number", "least", "greatest"] sp_between := by
  refine T.f_between.ok sc_between (fun vs H Q E h => ?_) (fun cdv A outer s H vs Q E hr h => ?_)
  · obtain ⟨n, l, g, rfl, _⟩ := h
    rfl
  · obtain ⟨n, l, g, rfl, k⟩ := h
    refine ⟨_, (pss_one (ps_ret (pe_callB (call_max2 rfl) (by rfl) T.z_max (by decide +kernel) (pa_cons (pv 1) (pa_cons (pe_callB (call_min2 rfl) (by rfl) T.z_min (by decide +kernel) (pa_cons (pv 2) (pa_cons (pv 0) pa_nil))) pa_nil))))), ?_⟩
    exact ⟨_, rfl, _, rfl, _, rfl, _, _, rfl, _, _, rfl, k⟩
theorem ok_room_for (T : Txt K mg) : FnOk PR w K mg base CX0 1 T.a_room_for T.d_room_for ["lines", "height"] sp_room_for := by
  refine T.f_room_for.ok sc_room_for (fun vs H Q E h => ?_) (fun cdv A outer s H vs Q E hr h => ?_)
  · obtain ⟨n, l, rfl, _⟩ := h
    rfl
  · obtain ⟨n, l, rfl, k⟩ := h
    refine ⟨_, (pss_one (ps_ret (pe_callB (call_max2 rfl) (by rfl) T.z_max (by decide +kernel) (pa_cons pe_int (pa_cons (pe_op op_sub (pv 0) (pv 1)) pa_nil))))), ?_⟩
    exact ⟨_, rfl, _, rfl, _, _, rfl, rfl, _, _, rfl, k⟩
theorem ok_room_of (T : Txt K mg) : FnOk PR w K mg base (L2.CX PR w) 4 T.a_room_of T.d_room_of ["lines", "height"] (sp_room_of T.c_InvalidNumber) := by
  refine T.f_room_of.okX sc_room_of (fun vs H Q E h => ?_) (fun cdv A outer s H vs Q E hr h => ?_)
  · obtain ⟨n, l, rfl, _⟩ := h
    rfl
  · obtain ⟨n, l, rfl, k, k1, k2⟩ := h
    refine ⟨_, (pss_cons (ps_expr (pe_call (ok_need_from T) (hr.mono (by decide)) (by rfl) T.g_need_from T.f_need_from.kp (b_need_from T) .nil passX (pa_cons (pv 0) (pa_cons pe_int pa_nil)))) (pss_cons (ps_expr (pe_call (ok_need_from T) (hr.mono (by decide)) (by rfl) T.g_need_from T.f_need_from.kp (b_need_from T) .nil passX (pa_cons (pv 1) (pa_cons pe_int pa_nil)))) (pss_one (ps_ret (pe_call (ok_room_for T) (hr.mono (by decide)) (by rfl) T.g_room_for T.f_room_for.kp (b_room_for T) .nil pass0 (pa_cons (pv 0) (pa_cons (pv 1) pa_nil))))))), ?_⟩
    refine ⟨_, rfl, n, 0, rfl, fun c => ?_, k1⟩
    refine ⟨_, rfl, l, 1, rfl, fun c2 => ?_, fun c2 => k2 c c2⟩
    exact ⟨_, rfl, _, rfl, n, l, rfl, k c c2⟩
theorem ok_after_turn (T : Txt K mg) : FnOk PR w K mg base CX0 1 T.a_after_turn T.d_after_turn ["rooms", "scrolls", "turn"] (sp_after_turn K) := by
  refine T.f_after_turn.ok sc_after_turn (fun vs H Q E h => ?_) (fun cdv A outer s H vs Q E hr h => ?_)
  · obtain ⟨a, b, R, S, t, rfl, _⟩ := h
    rfl
  · obtain ⟨a, b, R, S, t, rfl, ha, hb, k⟩ := h
    refine ⟨_, (pss_cons (ps_asg (pv 1) (pg_tup rfl (pgs_cons (pg_name (i := 3) sc_after_turn.nd rfl (by first | exact Or.inl rfl | exact Or.inr rfl)) (pgs_cons (pg_name (i := 4) sc_after_turn.nd rfl (by first | exact Or.inl rfl | exact Or.inr rfl)) pgs_nil)))) (pss_cons (ps_if (pt_cmpR op_gt (pv 2) pe_int (nomark _)) (pss_cons (ps_set (i := 5) sc_after_turn.nd rfl (by first | exact Or.inl rfl | exact Or.inr rfl) (pe_callB (call_min2 rfl) (by rfl) T.z_min (by decide +kernel) (pa_cons (pv 2) (pa_cons (pe_op op_sub (pe_ix ix_tup (pv 0) pe_int (fun _ _ => rfl)) (pv 3)) pa_nil)))) (pss_one (ps_ret (pe_tupG (pa_cons (pe_op op_add (pv 3) (pv 5)) (pa_cons (pe_callB (call_min2 rfl) (by rfl) T.z_min (by decide +kernel) (pa_cons (pe_ix ix_tup (pv 0) pe_int (fun _ _ => rfl)) (pa_cons (pe_op op_sub (pe_op op_add (pv 4) (pv 2)) (pv 5)) pa_nil))) pa_nil)))))) pss_nil) (pss_cons (ps_set (i := 5) sc_after_turn.nd rfl (by first | exact Or.inl rfl | exact Or.inr rfl) (pe_callB (call_min2 rfl) (by rfl) T.z_min (by decide +kernel) (pa_cons (pe_op op_sub pe_int (pv 2)) (pa_cons (pv 3) pa_nil)))) (pss_one (ps_ret (pe_tupG (pa_cons (pe_op op_sub (pv 3) (pv 5)) (pa_cons (pe_callB (call_max2 rfl) (by rfl) T.z_max (by decide +kernel) (pa_cons pe_int (pa_cons (pe_op op_add (pe_op op_add (pv 4) (pv 2)) (pv 5)) pa_nil))) pa_nil)))))))), ?_⟩
    refine ⟨_, rfl, _, _, rfl, hb, rfl, _, _, rfl, _, _, rfl, rfl, ?_⟩
    refine ⟨_, rfl, _, _, rfl, rfl, _, rfl, ?_⟩
    refine ifB (fun c => ?_) (fun c => ?_)
    · refine ⟨_, rfl, _, rfl, _, _, _, _, rfl, rfl, ha, at0, _, rfl, _, _, rfl, rfl, _, _, rfl, ?_⟩
      refine ⟨_, rfl, _, rfl, _, _, rfl, rfl, _, rfl, _, _, _, _, rfl, rfl, ha, at1, _, rfl, _, rfl, _, _, rfl, rfl, _, rfl, _, _, rfl, rfl, _, _, rfl, (by show 2 ≤ sizeLine; decide), fun p1 H1 n1 e1 h1 => ?_⟩
      refine k p1 H1 n1 e1 ?_
      have e : aft R t S = (S.1 + mn t (R.1 - S.1), mn R.2 (S.2 + t - mn t (R.1 - S.1))) := if_pos (of_decide_eq_true c)
      rw [e]
      exact h1
    · refine ⟨_, rfl, _, _, rfl, rfl, _, rfl, _, _, rfl, ?_⟩
      refine ⟨_, rfl, _, rfl, _, _, rfl, rfl, _, rfl, _, rfl, _, _, rfl, rfl, _, rfl, _, _, rfl, rfl, _, _, rfl, (by show 2 ≤ sizeLine; decide), fun p2 H2 n2 e2 h2 => ?_⟩
      refine k p2 H2 n2 e2 ?_
      have e : aft R t S = (S.1 - mn (0 - t) S.1, mx 0 (S.2 + t + mn (0 - t) S.1)) := if_neg (of_decide_eq_false c)
      rw [e]
      exact h2
theorem ok_scrolls_after (T : Txt K mg) : FnOk PR w K mg base CX0 2 T.a_scrolls_after T.d_scrolls_after ["rooms", "scrolls", "turns"] (sp_scrolls_after K) := by
  refine T.f_scrolls_after.ok sc_scrolls_after (fun vs H Q E h => ?_) (fun cdv A outer s H vs Q E hr h => ?_)
  · obtain ⟨a, b, c, R, S, ts, rfl, _⟩ := h
    rfl
  · obtain ⟨a, b, c, R, S, ts, rfl, ha, hb, hc, k⟩ := h
    refine ⟨_, (pss_cons (ps_set (i := 3) sc_scrolls_after.nd rfl (by first | exact Or.inl rfl | exact Or.inr rfl) (pv 1)) (pss_cons (ps_for PassesOwn.never rfl (pi_list (pv 2)) (pg_name (i := 4) sc_scrolls_after.nd rfl (by first | exact Or.inl rfl | exact Or.inr rfl)) (pss_one (ps_set (i := 3) sc_scrolls_after.nd rfl (by first | exact Or.inl rfl | exact Or.inr rfl) (pe_call (ok_after_turn T) (hr.mono (by decide)) (by rfl) T.g_after_turn T.f_after_turn.kp (b_after_turn T) .nil pass0 (pa_cons (pv 0) (pa_cons (pv 3) (pa_cons (pv 4) pa_nil))))))) (pss_one (ps_ret (pv 3))))), ?_⟩
    refine ⟨_, rfl, ?_⟩
    refine ⟨_, rfl, c, rfl, ⟨_, hc⟩, for_list (K := K) (a := c) (xs := ts.map V.int) (fun i σ H' => ∃ (p : Addr) (v : Option V), σ = [some (.ref a), some (.ref b), some (.ref c), some (.ref p), v] ∧ Ex H H' ∧ SqT K H' p (t2 (after R S (ts.take i))))
      ⟨b, _, rfl, Evl.Ex.refl _, hb⟩ (fun i σ H' _ ⟨_, _, _, e, _⟩ => Evl.ex_l e hc) ?_ ?_⟩
    · rintro i x σ H' hi ⟨p, v, rfl, e, hp⟩
      obtain ⟨t, ht, rfl⟩ := mapI_get hi
      refine ⟨_, rfl, _, rfl, _, rfl, a, p, R, _, t, rfl, Evl.ex_t e ha, hp, fun q H2 n2 e2 h2 => ?_⟩
      refine ⟨q, _, rfl, e.trans e2, ?_⟩
      rw [take_next ht, after_app]
      exact sqT h2
    · rintro σ H' ⟨p, v, rfl, e, hp⟩
      refine ⟨_, rfl, ?_⟩
      rw [List.length_map, List.take_of_length_le (Nat.le_refl _)] at hp
      exact k p H' e hp
theorem ok_turned_by (T : Txt K mg) : FnOk PR w K mg base (L2.CX PR w) 5 T.a_turned_by T.d_turned_by ["rooms", "scrolls", "turns"] (sp_turned_by K T.c_InvalidNumber) := by
  refine T.f_turned_by.okX sc_turned_by (fun vs H Q E h => ?_) (fun cdv A outer s H vs Q E hr h => ?_)
  · obtain ⟨a, b, c, R, S, ts, rfl, _⟩ := h
    rfl
  · obtain ⟨a, b, c, R, S, ts, rfl, ha, hb, hc, k, k1, k2, k3, k4⟩ := h
    refine ⟨_, (pss_cons (ps_expr (pe_call (ok_need_rooms T) (hr.mono (by decide)) (by rfl) T.g_need_rooms T.f_need_rooms.kp (b_need_rooms T) .nil passX (pa_cons (pv 0) pa_nil))) (pss_cons (ps_expr (pe_call (ok_need_scrolls T) (hr.mono (by decide)) (by rfl) T.g_need_scrolls T.f_need_scrolls.kp (b_need_scrolls T) .nil passX (pa_cons (pv 0) (pa_cons (pv 1) pa_nil)))) (pss_cons (ps_asg (pe_call (ok_scrolls_after T) (hr.mono (by decide)) (by rfl) T.g_scrolls_after T.f_scrolls_after.kp (b_scrolls_after T) .nil pass0 (pa_cons (pv 0) (pa_cons (pv 1) (pa_cons (pv 2) pa_nil)))) (pg_tup rfl (pgs_cons (pg_name (i := 3) sc_turned_by.nd rfl (by first | exact Or.inl rfl | exact Or.inr rfl)) (pgs_cons (pg_name (i := 4) sc_turned_by.nd rfl (by first | exact Or.inl rfl | exact Or.inr rfl)) pgs_nil)))) (pss_one (ps_ret (pe_tupG (pa_cons (pv 3) (pa_cons (pv 4) pa_nil)))))))), ?_⟩
    refine ⟨_, rfl, a, R, rfl, ha, fun r1 r2 => ?_, k1, k2⟩
    refine ⟨_, rfl, _, rfl, a, b, R, S, rfl, ha, hb, fun ok H1 e1 => ?_, k3 r1 r2, k4 r1 r2⟩
    refine ⟨_, rfl, _, rfl, _, rfl, a, b, c, R, S, ts, rfl, Evl.ex_t e1 ha, Evl.ex_t e1 hb, Evl.ex_l e1 hc, fun p H2 e2 hp => ?_⟩
    refine ⟨_, _, rfl, hp, rfl, _, _, rfl, _, _, rfl, rfl, ?_⟩
    refine ⟨_, rfl, _, rfl, (by show 2 ≤ sizeLine; decide), fun p3 H3 n3 e3 h3 => ?_⟩
    exact k r1 r2 ok p3 H3 (Evl.fresh_back (e1.trans e2) n3) (e1.trans (e2.trans e3)) h3
theorem ok_lost (T : Txt K mg) : FnOk PR w K mg base (L2.CX PR w) 5 T.a_lost T.d_lost ["rooms", "scrolls", "turns"] (sp_lost K T.c_InvalidNumber) := by
  refine T.f_lost.okX sc_lost (fun vs H Q E h => ?_) (fun cdv A outer s H vs Q E hr h => ?_)
  · obtain ⟨a, b, c, R, S, ts, rfl, _⟩ := h
    rfl
  · obtain ⟨a, b, c, R, S, ts, rfl, ha, hb, hc, k, k1, k2, k3, k4⟩ := h
    refine ⟨_, (pss_cons (ps_expr (pe_call (ok_need_rooms T) (hr.mono (by decide)) (by rfl) T.g_need_rooms T.f_need_rooms.kp (b_need_rooms T) .nil passX (pa_cons (pv 0) pa_nil))) (pss_cons (ps_expr (pe_call (ok_need_scrolls T) (hr.mono (by decide)) (by rfl) T.g_need_scrolls T.f_need_scrolls.kp (b_need_scrolls T) .nil passX (pa_cons (pv 0) (pa_cons (pv 1) pa_nil)))) (pss_cons (ps_par3 (by rfl) sc_lost.nd rfl rfl rfl (by decide) (by decide) (by decide) rfl rfl rfl (i := 3) (j := 4) (l := 5) (pa_cons (pv 1) (pa_cons pe_int (pa_cons pe_int pa_nil))) (by rfl)) (pss_cons (ps_for (passes_of rfl) rfl (pi_list (pv 2)) (pg_name (i := 6) sc_lost.nd rfl (by first | exact Or.inl rfl | exact Or.inr rfl)) (pss_cons (ps_set (i := 7) sc_lost.nd rfl (by first | exact Or.inl rfl | exact Or.inr rfl) (pe_call (ok_after_turn T) (hr.mono (by decide)) (by rfl) T.g_after_turn T.f_after_turn.kp (b_after_turn T) .nil pass0 (pa_cons (pv 0) (pa_cons (pv 3) (pa_cons (pv 6) pa_nil))))) (pss_cons (ps_set (i := 8) sc_lost.nd rfl (by first | exact Or.inl rfl | exact Or.inr rfl) (pe_op op_sub (pe_callB (cr_sumT rfl) (by rfl) T.z_sum (by decide +kernel) (pa_cons (pv 7) pa_nil)) (pe_callB (cr_sumT rfl) (by rfl) T.z_sum (by decide +kernel) (pa_cons (pv 3) pa_nil)))) (pss_cons (ps_cut (ps_if (pt_cmpR op_gt (pv 6) pe_int (nomark _)) (pss_one (ps_set (i := 4) sc_lost.nd rfl (by first | exact Or.inl rfl | exact Or.inr rfl) (pe_op op_sub (pe_op op_add (pv 4) (pv 6)) (pv 8)))) (pss_one (ps_set (i := 5) sc_lost.nd rfl (by first | exact Or.inl rfl | exact Or.inr rfl) (pe_op op_sub (pe_op op_add (pv 5) (pv 8)) (pv 6)))))) (pss_one (ps_set (i := 3) sc_lost.nd rfl (by first | exact Or.inl rfl | exact Or.inr rfl) (pv 7))))))) (pss_one (ps_ret (pe_tupG (pa_cons (pv 4) (pa_cons (pv 5) pa_nil))))))))), ?_⟩
    refine ⟨_, rfl, a, R, rfl, ha, fun r1 r2 => ?_, k1, k2⟩
    refine ⟨_, rfl, _, rfl, a, b, R, S, rfl, ha, hb, fun ok H1 e1 => ?_, k3 r1 r2, k4 r1 r2⟩
    refine ⟨_, rfl, _, _, _, rfl, ?_⟩
    refine ⟨_, rfl, c, rfl, ⟨_, Evl.ex_l e1 hc⟩, for_list (K := K) (a := c) (xs := ts.map V.int) (fun i σ H' => ∃ (p : Addr) (v1 v2 v3 : Option V), σ = [some (.ref a), some (.ref b), some (.ref c), some (.ref p), some (.int (lose R S (ts.take i)).2.1), some (.int (lose R S (ts.take i)).2.2), v1, v2, v3] ∧ Ex H H' ∧ SqT K H' p (t2 (lose R S (ts.take i)).1))
      ⟨b, _, _, _, rfl, e1, Evl.ex_t e1 hb⟩ (fun i σ H' _ ⟨_, _, _, _, _, e, _⟩ => Evl.ex_l e hc) ?_ ?_⟩
    · rintro i x σ H' hi ⟨p, v1, v2, v3, rfl, e, hp⟩
      obtain ⟨t, ht, rfl⟩ := mapI_get hi
      refine ⟨_, rfl, _, rfl, _, rfl, a, p, R, _, t, rfl, Evl.ex_t e ha, hp, fun q H2 n2 e2 h2 => ?_⟩
      rw [take_next ht, lose_app]
      generalize lose R S (ts.take i) = x at hp h2 ⊢
      refine ⟨_, rfl, q, [(aft R t x.1).1, (aft R t x.1).2], rfl, sqT h2, ?_⟩
      refine ⟨_, rfl, p, [x.1.1, x.1.2], rfl, Evl.ex_t e2 hp, ?_⟩
      refine ⟨_, _, rfl, rfl, ?_⟩
      have s1 : ([(aft R t x.1).1, (aft R t x.1).2].sum - [x.1.1, x.1.2].sum : Int) = sm (aft R t x.1) - sm x.1 := by
        unfold sm
        simp only [List.sum_cons, List.sum_nil]
        omega
      show tCutS _ _ _ _
      refine ⟨fun σ' H3 => H3 = H2 ∧ σ' = [some (.ref a), some (.ref b), some (.ref c), some (.ref p), some (.int (lstep R x t).2.1), some (.int (lstep R x t).2.2), some (.int t), some (.ref q), some (.int ([(aft R t x.1).1, (aft R t x.1).2].sum - [x.1.1, x.1.2].sum))], ?_, ?_⟩
      · refine ⟨_, rfl, _, _, rfl, rfl, _, rfl, ?_⟩
        refine ifB (fun cc => ?_) (fun cc => ?_)
        · refine ⟨_, rfl, _, rfl, _, _, rfl, rfl, _, rfl, _, _, rfl, rfl, rfl, ?_⟩
          have c' : t > 0 := of_decide_eq_true cc
          have e3 : lstep R x t = (aft R t x.1, (x.2.1 + t - (sm (aft R t x.1) - sm x.1), x.2.2)) := by
            unfold lstep
            rw [if_pos c']
          rw [e3, ← s1]
          rfl
        · refine ⟨_, rfl, _, rfl, _, _, rfl, rfl, _, rfl, _, _, rfl, rfl, rfl, ?_⟩
          have c' : ¬ t > 0 := of_decide_eq_false cc
          have e3 : lstep R x t = (aft R t x.1, (x.2.1, x.2.2 + (sm (aft R t x.1) - sm x.1) - t)) := by
            unfold lstep
            rw [if_neg c']
          rw [e3, ← s1]
          rfl
      · rintro σ' H3 ⟨rfl, rfl⟩
        refine ⟨_, rfl, ?_⟩
        exact ⟨q, _, _, _, rfl, e.trans e2, sqT h2⟩
    · rintro σ H' ⟨p, v1, v2, v3, rfl, e, hp⟩
      refine ⟨_, rfl, _, rfl, (by show 2 ≤ sizeLine; decide), fun p3 H3 n3 e3 h3 => ?_⟩
      rw [List.length_map, List.take_of_length_le (Nat.le_refl _)] at h3
      exact k r1 r2 ok p3 H3 (Evl.fresh_back e n3) (e.trans e3) h3
theorem ok_clipped (T : Txt K mg) : FnOk PR w K mg base (L2.CX PR w) 5 T.a_clipped T.d_clipped ["rooms", "scrolls"] (sp_clipped K T.c_InvalidNumber) := by
  refine T.f_clipped.okX sc_clipped (fun vs H Q E h => ?_) (fun cdv A outer s H vs Q E hr h => ?_)
  · obtain ⟨a, b, R, S, rfl, _⟩ := h
    rfl
  · obtain ⟨a, b, R, S, rfl, ha, hb, k, k1, k2⟩ := h
    refine ⟨_, (pss_cons (ps_expr (pe_call (ok_need_rooms T) (hr.mono (by decide)) (by rfl) T.g_need_rooms T.f_need_rooms.kp (b_need_rooms T) .nil passX (pa_cons (pv 0) pa_nil))) (pss_one (ps_ret (pe_tupG (pa_cons (pe_call (ok_between T) (hr.mono (by decide)) (by rfl) T.g_between T.f_between.kp (b_between T) .nil pass0 (pa_cons (pe_ix ix_tup (pv 1) pe_int (fun _ _ => rfl)) (pa_cons pe_int (pa_cons (pe_ix ix_tup (pv 0) pe_int (fun _ _ => rfl)) pa_nil)))) (pa_cons (pe_call (ok_between T) (hr.mono (by decide)) (by rfl) T.g_between T.f_between.kp (b_between T) .nil pass0 (pa_cons (pe_ix ix_tup (pv 1) pe_int (fun _ _ => rfl)) (pa_cons pe_int (pa_cons (pe_ix ix_tup (pv 0) pe_int (fun _ _ => rfl)) pa_nil)))) pa_nil)))))), ?_⟩
    refine ⟨_, rfl, a, R, rfl, ha, fun r1 r2 => ?_, k1, k2⟩
    refine ⟨_, rfl, _, _, _, _, rfl, rfl, hb, at0, _, rfl, _, _, _, _, rfl, rfl, ha, at0, _, _, _, rfl, ?_⟩
    refine ⟨_, rfl, _, _, _, _, rfl, rfl, hb, at1, _, rfl, _, _, _, _, rfl, rfl, ha, at1, _, _, _, rfl, ?_⟩
    refine ⟨(by show 2 ≤ sizeLine; decide), fun p1 H1 n1 e1 h1 => ?_⟩
    exact k r1 r2 p1 H1 n1 e1 h1
end
end K34
set_option Elab.async false
set_option linter.all false
set_option maxRecDepth 100000
set_option maxHeartbeats 4000000
namespace K34
open PySem L2 My
/-! ### the jug -/
/-- a jug of draws stands at j, of which at most B were mixed -/
def Jug (H : Hp) (j : Addr) (B : Int) : Prop := ∃ x y z : Int, H j = some (.lst [.int x, .int y, .int z]) ∧ 0 ≤ y ∧ y < 2 ^ 200 ∧ 0 ≤ z ∧ z ≤ B
theorem Jug.ex {H H' : Hp} {j : Addr} {B : Int} (e : Ex H H') : Jug H j B → Jug H' j B
  | ⟨x, y, z, h, r⟩ => ⟨x, y, z, e _ _ h, r⟩
theorem Jug.mono {H : Hp} {j : Addr} {B B' : Int} (h : B ≤ B') : Jug H j B → Jug H j B'
  | ⟨x, y, z, h1, h2, h3, h4, h5⟩ => ⟨x, y, z, h1, h2, h3, h4, by omega⟩
theorem mix_lt {m z : Int} (h0 : 0 ≤ m) (h1 : m < 2 ^ 200) (z0 : 0 ≤ z) (z1 : z ≤ 2 ^ 60) : (m + 13466917 * (z + 1)).natAbs < 2 ^ 210 := by omega
def sp__law_pour : Sp := fun vs H Q _ => ∃ (j : Addr) (many B : Int), vs = [.ref j, .int many] ∧ Jug H j B ∧ B ≤ 2 ^ 60 ∧ 0 < many ∧ many < 2 ^ 200 ∧
  ∀ (n : Int) (H' : Hp), 0 ≤ n → n < many → Exj j H H' → Jug H' j (B + 1) → Q (.int n) H'
section
variable {P : Program} {w : World} {K : PySem.W.Frag} {mg : Str → Option Value} {base : Heap}
theorem ok__law_pour (T : Txt K mg) : FnOk P w K mg base CX0 1 T.a__law_pour T.d__law_pour ["_law_jug_here", "_law_many"] sp__law_pour := by
  refine T.f__law_pour.ok sc__law_pour (fun vs H Q E h => ?_) (fun cdv A outer s H vs Q E hr h => ?_)
  · obtain ⟨j, many, B, rfl, _⟩ := h
    rfl
  · obtain ⟨j, many, B, rfl, ⟨x, y, z, hj, y0, y1, z0, z1⟩, hB, m0, m1, k⟩ := h
    refine ⟨_, (pss_cons (ps_if (pt_cmpR op_gt (pe_ix ix_list (pv 0) pe_int (fun _ _ => rfl)) pe_int (nomark _)) (pss_cons (ps_set (i := 2) sc__law_pour.nd rfl (by first | exact Or.inl rfl | exact Or.inr rfl) (pe_op op_mod (pe_callTy call_int1 (by rfl) T.z_int (by decide +kernel) (pa_cons (pe_ix ix_list (pv 0) pe_int (fun _ _ => rfl)) pa_nil)) (pv 1))) (pss_cons (ps_asg (pe_op op_fdivW (pe_ix ix_list (pv 0) pe_int (fun _ _ => rfl)) (pv 1)) (pg_sub (pv 0) pe_int set_list)) (pss_one (ps_ret (pv 2))))) pss_nil) (pss_cons (ps_asg (pe_op op_add (pe_ix ix_list (pv 0) pe_int (fun _ _ => rfl)) pe_int) (pg_sub (pv 0) pe_int set_list)) (pss_cons (ps_set (i := 3) sc__law_pour.nd rfl (by first | exact Or.inl rfl | exact Or.inr rfl) (pe_op op_mod (pe_callTy call_int1 (by rfl) T.z_int (by decide +kernel) (pa_cons (pe_op op_powW (pe_op op_add (pe_ix ix_list (pv 0) pe_int (fun _ _ => rfl)) (pe_op op_mulW pe_int (pe_ix ix_list (pv 0) pe_int (fun _ _ => rfl)))) pe_int) pa_nil)) (pe_op op_add (pe_op op_powW pe_int pe_int) pe_int))) (pss_cons (ps_set (i := 3) sc__law_pour.nd rfl (by first | exact Or.inl rfl | exact Or.inr rfl) (pe_op op_mod (pe_callTy call_int1 (by rfl) T.z_int (by decide +kernel) (pa_cons (pe_op op_powW (pe_op op_add (pv 3) (pe_op op_mulW pe_int (pe_ix ix_list (pv 0) pe_int (fun _ _ => rfl)))) pe_int) pa_nil)) (pe_op op_add (pe_op op_powW pe_int pe_int) pe_int))) (pss_one (ps_ret (pe_op op_mod (pe_op op_fdivW (pv 3) pe_int) (pv 1)))))))), ?_⟩
    have sq : ∀ {H' : Hp} {l : List V}, H' j = some (.lst l) → SqL K H' j l := fun h => sqI h
    have m2 : many.natAbs < 2 ^ 200 := by omega
    -- if _law_jug_here[0] > 0:
    refine ⟨_, rfl, _, _, _, _, rfl, rfl, sq hj, at0, _, _, rfl, rfl, _, rfl, ?_⟩
    refine ite2 (fun c => ?_) (fun c => ?_)
    · -- _law_found = int(_law_jug_here[0]) % _law_many
      refine ⟨_, rfl, _, _, _, _, rfl, rfl, sq hj, at0, .inl ⟨_, rfl, ?_⟩⟩
      refine ⟨_, rfl, _, _, rfl, rfl, m0, ?_⟩
      -- _law_jug_here[0] = _law_jug_here[0] // _law_many
      refine ⟨_, rfl, _, _, _, _, rfl, rfl, sq hj, at0, _, rfl, _, _, rfl, rfl, wide_div m0 m2 (by decide) (by decide), _, rfl, _, _, _, _, rfl, rfl, hj, (show _ = some 0 from rfl), ?_⟩
      -- return _law_found
      refine ⟨_, rfl, ?_⟩
      exact k _ _ (Int.emod_nonneg _ (by omega)) (Int.emod_lt_of_pos _ m0) (Exj.refl _ _).upd ⟨_, y, z, upd_same, y0, y1, z0, by omega⟩
    · -- _law_jug_here[2] = _law_jug_here[2] + 1
      refine ⟨_, rfl, _, _, _, _, rfl, rfl, sq hj, at2, _, _, rfl, rfl, _, rfl, _, _, _, _, rfl, rfl, hj, (show _ = some 2 from rfl), ?_⟩
      have hj1 : upd H j (.lst [.int x, .int y, .int (z + 1)]) j = some (.lst [.int x, .int y, .int (z + 1)]) := upd_same
      have ez : (z + 1).natAbs < 2 ^ 70 := by omega
      have b1 : (y + 24036583 * (z + 1)).natAbs < 2 ^ 210 := by omega
      -- _law_mixed = ..
      refine ⟨_, rfl, _, _, _, _, rfl, rfl, sq hj1, at1, _, rfl, _, _, _, _, rfl, rfl, sq hj1, at2, _, _, rfl, rfl, wide_mul (a := 30) (b := 70) (by decide) ez (by decide) (by decide) (by decide), _, _, rfl, rfl, _, _, rfl, rfl, powW_of (j := 3) b1 (by decide) (by decide), .inl ⟨_, rfl, ?_⟩⟩
      refine ⟨_, _, rfl, rfl, (show CPowW 10 42 by constructor <;> decide +kernel), _, _, rfl, rfl, _, _, rfl, rfl, (show (0 : Int) < 10 ^ (42 : Int).toNat + 63 by decide +kernel), ?_⟩
      -- the first mixture by a letter
      have q0 := Int.emod_nonneg ((y + 24036583 * (z + 1)) ^ (3 : Int).toNat) (show ((10 : Int) ^ (42 : Int).toNat + 63) ≠ 0 by decide +kernel)
      have q1 := Int.emod_lt_of_pos ((y + 24036583 * (z + 1)) ^ (3 : Int).toNat) (show 0 < ((10 : Int) ^ (42 : Int).toNat + 63) by decide +kernel)
      have q2 : ((10 : Int) ^ (42 : Int).toNat + 63) < 2 ^ 200 := by decide +kernel
      have b2 := mix_lt (z := z) q0 (Int.lt_trans q1 q2) z0 (Int.le_trans z1 hB)
      -- _law_mixed = ..
      refine ⟨_, rfl, _, rfl, _, _, _, _, rfl, rfl, sq hj1, at2, _, _, rfl, rfl, wide_mul (a := 30) (b := 70) (by decide) ez (by decide) (by decide) (by decide), _, _, rfl, rfl, _, _, rfl, rfl, powW_of (j := 3) b2 (by decide) (by decide), .inl ⟨_, rfl, ?_⟩⟩
      refine ⟨_, _, rfl, rfl, (show CPowW 10 44 by constructor <;> decide +kernel), _, _, rfl, rfl, _, _, rfl, rfl, (show (0 : Int) < 10 ^ (44 : Int).toNat + 57 by decide +kernel), ?_⟩
      -- return _law_mixed // 1299709 % _law_many
      refine ⟨_, rfl, _, _, rfl, rfl, wide_div (b := 40) (by decide) (by decide) (by decide) (by decide), _, rfl, _, _, rfl, rfl, m0, ?_⟩
      exact k _ _ (Int.emod_nonneg _ (by omega)) (Int.emod_lt_of_pos _ m0) (Exj.refl _ _).upd ⟨x, y, z + 1, upd_same, y0, y1, by omega, by omega⟩
end
def sp__law_jug (K : PySem.W.Frag) : Sp := fun vs H Q _ => ∃ (a : Addr) (ns : List Int) (k : Int), vs = [.ref a, .int k] ∧ SqL K H a (ns.map V.int) ∧ 0 ≤ k ∧ k ≤ 100 ∧ ∀ (p : Addr) (H' : Hp), H p = none → Ex H H' → Jug H' p 0 → Q (.ref p) H'
def sp__law_turns : Sp := fun vs H Q _ => ∃ (j : Addr) (most size B : Int), vs = [.ref j, .int most, .int size] ∧ Jug H j B ∧ B ≤ 2 ^ 50 ∧ 0 ≤ most ∧ most ≤ 50 ∧ 0 ≤ size ∧ size ≤ 100 ∧
  ∀ (p : Addr) (H' : Hp) (ts : List Int), H p = none → Exj j H H' → Jug H' j (B + 100) → H' p = some (.lst (ts.map V.int)) → ts.length ≤ 60 → (∀ t ∈ ts, -100 ≤ t ∧ t ≤ 100) → Q (.ref p) H'
theorem Jug.some {H : Hp} {j : Addr} {B : Int} : Jug H j B → ∃ o, H j = some o
  | ⟨_, _, _, h, _⟩ => ⟨_, h⟩
theorem Jug.ne {H : Hp} {j p : Addr} {B : Int} (h : Jug H j B) (n : H p = none) : p ≠ j := by
  obtain ⟨o, ho⟩ := h.some
  exact (ne_of_none ho n).symm
theorem _root_.My.Exj.back {j p : Addr} {H H' : Hp} (e : Exj j H H') (n : p ≠ j) (h : H' p = none) : H p = none := by
  cases q : H p with
  | none => rfl
  | some o =>
    rw [e p o n q] at h
    cases h
section
variable {P : Program} {w : World} {K : PySem.W.Frag} {mg : Str → Option Value} {base : Heap}
theorem ok__law_jug (T : Txt K mg) : FnOk P w K mg base CX0 1 T.a__law_jug T.d__law_jug ["_law_script", "_law_k"] (sp__law_jug K) := by
  refine T.f__law_jug.ok sc__law_jug (fun vs H Q E h => ?_) (fun cdv A outer s H vs Q E hr h => ?_)
  · obtain ⟨a, ns, k, rfl, _⟩ := h
    rfl
  · obtain ⟨a, ns, n, rfl, hs, n0, n1, k⟩ := h
    refine ⟨_, (pss_cons (ps_set (i := 2) sc__law_jug.nd rfl (by first | exact Or.inl rfl | exact Or.inr rfl) (pe_cut (pe_ifExp (pt_cmpR op_lt (pv 1) (pe_callB call_len_seq (by rfl) T.z_len PySem.boot_len (pa_cons (pv 0) pa_nil)) (nomark _)) (pe_ix ix_list (pv 0) (pv 1) (fun _ _ => rfl)) pe_int))) (pss_one (ps_ret (pe_lstG (pa_cons (pe_callB (call_max2 rfl) (by rfl) T.z_max (by decide +kernel) (pa_cons pe_int (pa_cons (pe_op op_sub (pv 2) (pe_op op_powW pe_int pe_int)) pa_nil))) (pa_cons (pe_op op_add (pe_op op_add (pe_op op_mulW (pe_op op_mod (pv 2) (pe_op op_add (pe_op op_powW pe_int pe_int) pe_int)) pe_int) (pe_op op_mulW pe_int (pv 1))) pe_int) (pa_cons pe_int pa_nil))))))), ?_⟩
    -- _law_cell = _law_script[_law_k] if _law_k < len(_law_script) else 0
    refine ⟨fun v H' => H' = H ∧ ∃ c : Int, v = .int c, ?_, ?_⟩
    · refine ⟨_, rfl, _, rfl, _, _, rfl, .inl hs, _, _, rfl, rfl, _, rfl, ?_⟩
      refine ifB (fun c => ?_) (fun c => ⟨rfl, _, rfl⟩)
      have c' : n < ((ns.map V.int).length : Int) := of_decide_eq_true c
      rw [List.length_map] at c'
      have hx : ns[n.toNat]? = some (ns[n.toNat]'(by omega)) := List.getElem?_eq_getElem (by omega)
      refine ⟨_, rfl, _, rfl, _, _, _, _, rfl, rfl, hs, at_of (j := n.toNat) (by omega) (by rw [List.getElem?_map, hx]; rfl), rfl, _, rfl⟩
    · rintro v H' ⟨rfl, c, rfl⟩
      have q0 := Int.emod_nonneg c (show ((10 : Int) ^ (39 : Int).toNat + 3) ≠ 0 by decide +kernel)
      have q1 := Int.emod_lt_of_pos c (show 0 < ((10 : Int) ^ (39 : Int).toNat + 3) by decide +kernel)
      have q2 : ((10 : Int) ^ (39 : Int).toNat + 3) < 2 ^ 140 := by decide +kernel
      have b0 : (c % ((10 : Int) ^ (39 : Int).toNat + 3)).natAbs < 2 ^ 140 := by
        have := Int.lt_trans q1 q2
        omega
      refine ⟨_, rfl, _, _, rfl, rfl, (show CPowW 10 18 by constructor <;> decide +kernel), _, _, rfl, rfl, _, _, rfl, _, rfl, _, _, rfl, rfl, (show CPowW 10 39 by constructor <;> decide +kernel), _, _, rfl, rfl, _, _, rfl, rfl, (show (0 : Int) < 10 ^ (39 : Int).toNat + 3 by decide +kernel), _, _, rfl, rfl, wide_mul (b := 10) b0 (by decide) (by decide) (by decide) (by decide), _, rfl, _, _, rfl, rfl, wide_mul (a := 20) (b := 10) (by decide) (by omega) (by decide) (by decide) (by decide), _, _, rfl, rfl, _, _, rfl, rfl, (by show 3 ≤ sizeLine; decide), fun p1 H1 n1 e1 h1 => ?_⟩
      refine k p1 H1 n1 e1 ⟨_, _, _, h1, ?_, ?_, Int.le_refl _, Int.le_refl _⟩
      · show 0 ≤ c % ((10 : Int) ^ (39 : Int).toNat + 3) * 211 + 50021 * n + 29
        have := Int.mul_nonneg q0 (show (0 : Int) ≤ 211 by decide)
        omega
      · show c % ((10 : Int) ^ (39 : Int).toNat + 3) * 211 + 50021 * n + 29 < 2 ^ 200
        generalize c % ((10 : Int) ^ (39 : Int).toNat + 3) = d at q0 b0 ⊢
        omega
theorem ok__law_turns (T : Txt K mg) : FnOk P w K mg base CX0 2 T.a__law_turns T.d__law_turns ["_law_jug_here", "_law_most", "_law_size"] sp__law_turns := by
  refine T.f__law_turns.ok sc__law_turns (fun vs H Q E h => ?_) (fun cdv A outer s H vs Q E hr h => ?_)
  · obtain ⟨j, most, size, B, rfl, _⟩ := h
    rfl
  · obtain ⟨j, most, size, B, rfl, hj, hB, m0, m1, s0, s1, k⟩ := h
    refine ⟨_, (pss_cons (ps_set (i := 3) sc__law_turns.nd rfl (by first | exact Or.inl rfl | exact Or.inr rfl) (pe_cut (pe_ifExp (pt_cmpR op_eq (pe_call (ok__law_pour T) (hr.mono (by decide)) (by rfl) T.g__law_pour T.f__law_pour.kp (b__law_pour T) .nil pass0 (pa_cons (pv 0) (pa_cons pe_int pa_nil))) pe_int (nomark _)) pe_int (pe_call (ok__law_pour T) (hr.mono (by decide)) (by rfl) T.g__law_pour T.f__law_pour.kp (b__law_pour T) .nil pass0 (pa_cons (pv 0) (pa_cons (pe_op op_add (pv 1) pe_int) pa_nil)))))) (pss_one (ps_ret (pe_lc (own := [("_law_turn", 4)]) (g := gName 4) (by rfl) sc__law_turns.nd (pi_range1 (by rfl) T.z_range (pa_cons (pv 3) pa_nil)) (blkOk_by (own := [("_law_turn", 4)]) (N := ["_law_jug_here", "_law_most", "_law_size", "_law_many", "_law_turn"]) (sc := defScope s__law_turns) (by decide +kernel)) (fun _ _ _ _ _ => (pg_name (i := 4) sc__law_turns.nd rfl (by first | exact Or.inl rfl | exact Or.inr rfl))) (fun _ _ _ _ _ => pts_nil) (fun _ _ _ _ _ => (pe_op op_sub (pe_call (ok__law_pour T) (hr.mono (by decide)) (by rfl) T.g__law_pour T.f__law_pour.kp (b__law_pour T) .nil pass0 (pa_cons (pv 0) (pa_cons (pe_op op_add (pe_op op_mulW pe_int (pv 2)) pe_int) pa_nil))) (pv 2))))))), ?_⟩
    refine ⟨fun v H' => ∃ n : Int, v = .int n ∧ 0 ≤ n ∧ n ≤ 60 ∧ Exj j H H' ∧ Jug H' j (B + 2), ?_, ?_⟩
    · refine ⟨_, rfl, j, _, B, rfl, hj, by omega, by decide, by decide, fun n H1 n0 n1 e1 j1 => ?_⟩
      refine ⟨rfl, _, rfl, ?_⟩
      refine ifB (fun c => ⟨60, rfl, by omega, by omega, e1, j1.mono (by omega)⟩) (fun c => ?_)
      refine ⟨_, rfl, _, rfl, _, _, rfl, rfl, j, _, _, rfl, j1, by omega, by omega, by omega, fun n H2 n0 n1 e2 j2 => ?_⟩
      exact ⟨n, rfl, n0, by omega, e1.trans e2, j2.mono (by omega)⟩
    · rintro v H1 ⟨n, rfl, n0, n1, e1, j1⟩
      refine ⟨_, rfl, _, rfl, (by omega), (by omega), fun D hD => lc_range (lo := 0) (n := n.toNat) (fun i H2 => ∃ ts : List Int, Exj j H1 H2 ∧ Jug H2 j (B + 2 + i) ∧ H2 D = some (.lst (ts.map V.int)) ∧ ts.length = i ∧ ∀ t ∈ ts, -100 ≤ t ∧ t ≤ 100) ?_ ?_ ?_⟩
      · exact ⟨[], Exj.of (Evl.Ex.new hD), (j1.ex (Evl.Ex.new hD)).mono (by omega), upd_same, rfl, fun t ht => by cases ht⟩
      · rintro i H2 hi ⟨ts, e2, j2, hd, hl, ht⟩
        have nDj : D ≠ j := j1.ne hD
        refine ⟨rfl, ?_⟩
        show _
        refine ⟨_, rfl, _, rfl, _, _, rfl, rfl, wide_mul (a := 10) (b := 20) (by decide) (by omega) (by decide) (by decide) (by decide), _, _, rfl, rfl, j, _, _, rfl, j2, by omega, by omega, by omega, fun m H3 k0 k1 e3 j3 => ?_⟩
        refine ⟨_, rfl, _, _, rfl, rfl, ts.map V.int, e3 _ _ nDj hd, ?_, ?_⟩
        · rw [List.length_map, hl]
          exact Nat.lt_of_lt_of_le (show i < 60 by omega) (by decide)
        · have exD : Exj j H1 (upd H3 D (.lst (ts.map V.int ++ [.int (m - size)]))) := fun b o nb hb => by
            rw [upd_ne (ne_of_none hb hD)]
            exact e3 _ _ nb (e2 _ _ nb hb)
          refine ⟨ts ++ [m - size], exD, ?_, ?_, by simp [hl], fun t h => ?_⟩
          · obtain ⟨x, y, z, h, r1, r2, r3, r4⟩ := j3
            exact ⟨x, y, z, by rw [upd_ne nDj.symm]; exact h, r1, r2, r3, by omega⟩
          · rw [upd_same, List.map_append]
            rfl
          · rcases List.mem_append.mp h with q | q
            · exact ht t q
            · have : t = m - size := by simpa using q
              omega
      · rintro H2 ⟨ts, e2, j2, hd, hl, ht⟩
        exact k D H2 ts (e1.back (j1.ne hD) hD) (e1.trans e2) (j2.mono (by omega)) hd (by omega) ht
end
end K34
set_option Elab.async false
set_option linter.all false
set_option maxRecDepth 100000
set_option maxHeartbeats 4000000
namespace K34
open PySem L2 My
theorem pp {A : Two} {a b c d : Int} (h1 : a = c) (h2 : b = d) : ((A, (a, b)) : Two × Two) = (A, (c, d)) := by rw [h1, h2]
theorem lstep_zero {R : Two} {x : Two × Two} (h : Ok R x.1) : lstep R x 0 = x := by
  unfold lstep
  rw [aft_zero h, if_neg (by omega)]
  obtain ⟨S, d, u⟩ := x
  dsimp only
  rw [Prod.mk.injEq]
  refine ⟨rfl, ?_⟩
  rw [Prod.mk.injEq]
  refine ⟨rfl, ?_⟩
  omega
/-- a tick downward, with what is lost -/
theorem ltick_down {R : Two} {x : Two × Two} (h : Ok R x.1) {i : Int} (hi : 0 ≤ i) : lstep R x (i + 1) =
    (if (lstep R x i).1.1 < R.1 then (((lstep R x i).1.1 + 1, (lstep R x i).1.2), (lstep R x i).2) else if (lstep R x i).1.2 < R.2 then (((lstep R x i).1.1, (lstep R x i).1.2 + 1), (lstep R x i).2)
      else ((lstep R x i).1, ((lstep R x i).2.1 + 1, (lstep R x i).2.2))) := by
  have t := tick_down h hi
  have e : (lstep R x i).1 = aft R i x.1 := rfl
  have e2 : (lstep R x i).2 = (x.2.1 + i - (sm (aft R i x.1) - sm x.1), x.2.2) := by
    by_cases h0 : i = 0
    · subst h0
      rw [lstep_zero h, aft_zero h]
      obtain ⟨S, d, u⟩ := x
      dsimp only
      rw [Prod.mk.injEq]
      exact ⟨by omega, rfl⟩
    · unfold lstep
      rw [if_pos (by omega)]
  rw [e, e2]
  have e3 : lstep R x (i + 1) = (aft R (i + 1) x.1, (x.2.1 + (i + 1) - (sm (aft R (i + 1) x.1) - sm x.1), x.2.2)) := by
    unfold lstep
    rw [if_pos (by omega)]
  rw [e3, t]
  generalize aft R i x.1 = y
  obtain ⟨a, b⟩ := y
  dsimp only [sm]
  by_cases c1 : a < R.1
  · rw [if_pos c1, if_pos c1]
    exact pp (by dsimp only; omega) rfl
  · rw [if_neg c1, if_neg c1]
    by_cases c2 : b < R.2
    · rw [if_pos c2, if_pos c2]
      exact pp (by dsimp only; omega) rfl
    · rw [if_neg c2, if_neg c2]
      exact pp (by dsimp only; omega) rfl
theorem ltick_up {R : Two} {x : Two × Two} (h : Ok R x.1) {i : Int} (hi : 0 ≤ i) : lstep R x (0 - (i + 1)) =
    (if (lstep R x (0 - i)).1.1 > 0 then (((lstep R x (0 - i)).1.1 - 1, (lstep R x (0 - i)).1.2), (lstep R x (0 - i)).2) else if (lstep R x (0 - i)).1.2 > 0 then (((lstep R x (0 - i)).1.1, (lstep R x (0 - i)).1.2 - 1), (lstep R x (0 - i)).2)
      else ((lstep R x (0 - i)).1, ((lstep R x (0 - i)).2.1, (lstep R x (0 - i)).2.2 + 1))) := by
  have t := tick_up h hi
  have e3 : ∀ j : Int, 0 ≤ j → lstep R x (0 - j) = (aft R (0 - j) x.1, (x.2.1, x.2.2 + (sm (aft R (0 - j) x.1) - sm x.1) - (0 - j))) := fun j hj => by
    unfold lstep
    rw [if_neg (by omega)]
  rw [e3 (i + 1) (by omega), e3 i hi, t]
  generalize aft R (0 - i) x.1 = y
  obtain ⟨a, b⟩ := y
  dsimp only [sm]
  by_cases c1 : a > 0
  · rw [if_pos c1, if_pos c1]
    exact pp rfl (by dsimp only; omega)
  · rw [if_neg c1, if_neg c1]
    by_cases c2 : b > 0
    · rw [if_pos c2, if_pos c2]
      exact pp rfl (by dsimp only; omega)
    · rw [if_neg c2, if_neg c2]
      exact pp rfl (by dsimp only; omega)
/-- so many ticks of a turn -/
def ticks (R : Two) (x : Two × Two) (t i : Int) : Two × Two := if t > 0 then lstep R x i else lstep R x (0 - i)
theorem ticks_zero {R : Two} {x : Two × Two} (h : Ok R x.1) (t : Int) : ticks R x t 0 = x := by
  unfold ticks
  split
  · exact lstep_zero h
  · exact lstep_zero h
theorem ticks_all {R : Two} {x : Two × Two} (t : Int) : ticks R x t (if t < 0 then -t else t) = lstep R x t := by
  unfold ticks
  by_cases h : t > 0
  · rw [if_pos h, if_neg (by omega)]
  · rw [if_neg h]
    congr 1
    split <;> omega
def sp__law_ticks (K : PySem.W.Frag) : Sp := fun vs H Q _ => ∃ (a b c : Addr) (R S : Two) (ts : List Int), vs = [.ref a, .ref b, .ref c] ∧ SqT K H a (t2 R) ∧ SqT K H b (t2 S) ∧ SqL K H c (ts.map V.int) ∧ Ok R S ∧ (∀ t ∈ ts, -100 ≤ t ∧ t ≤ 100) ∧
  ∀ p p1 p2 H', H p = none → Ex H H' → H' p = some (.tup [.ref p1, .ref p2]) → H' p1 = some (.tup (t2 (after R S ts))) → H' p2 = some (.tup (t2 (lose R S ts).2)) → Q (.ref p) H'
theorem lose_ok {R S : Two} (h : Ok R S) (ts : List Int) : Ok R (lose R S ts).1 := by
  rw [lose_here]
  exact after_ok ts h
section
variable {w : World} {K : PySem.W.Frag} {mg : Str → Option Value} {base : Heap}
theorem ok__law_ticks (T : Txt K mg) : FnOk PR w K mg base CX0 1 T.a__law_ticks T.d__law_ticks ["_law_rooms", "_law_scrolls", "_law_turns_here"] (sp__law_ticks K) := by
  refine T.f__law_ticks.ok sc__law_ticks (fun vs H Q E h => ?_) (fun cdv A outer s H vs Q E hr h => ?_)
  · obtain ⟨a, b, c, R, S, ts, rfl, _⟩ := h
    rfl
  · obtain ⟨a, b, c, R, S, ts, rfl, ha, hb, hc, ok, bd, k⟩ := h
    refine ⟨_, (pss_cons (ps_asg (pv 1) (pg_tup rfl (pgs_cons (pg_name (i := 3) sc__law_ticks.nd rfl (by first | exact Or.inl rfl | exact Or.inr rfl)) (pgs_cons (pg_name (i := 4) sc__law_ticks.nd rfl (by first | exact Or.inl rfl | exact Or.inr rfl)) pgs_nil)))) (pss_cons (ps_asg (pe_tupG (pa_cons pe_int (pa_cons pe_int pa_nil))) (pg_tup rfl (pgs_cons (pg_name (i := 5) sc__law_ticks.nd rfl (by first | exact Or.inl rfl | exact Or.inr rfl)) (pgs_cons (pg_name (i := 6) sc__law_ticks.nd rfl (by first | exact Or.inl rfl | exact Or.inr rfl)) pgs_nil)))) (pss_cons (ps_for PassesOwn.never rfl (pi_list (pv 2)) (pg_name (i := 7) sc__law_ticks.nd rfl (by first | exact Or.inl rfl | exact Or.inr rfl)) (pss_one (ps_for PassesOwn.never rfl (pi_range1 (by rfl) T.z_range (pa_cons (pe_callB call_abs (by rfl) T.z_abs (by decide +kernel) (pa_cons (pv 7) pa_nil)) pa_nil)) (pg_name (i := 8) sc__law_ticks.nd rfl (by first | exact Or.inl rfl | exact Or.inr rfl)) (pss_one (ps_if (pt_cut (PW.pt (pw_and (pt_cmpR op_gt (pv 7) pe_int (nomark _)) (pw_and1 (pt_cmpR op_lt (pv 3) (pe_ix ix_tup (pv 0) pe_int (fun _ _ => rfl)) (nomark _)))))) (pss_one (ps_set (i := 3) sc__law_ticks.nd rfl (by first | exact Or.inl rfl | exact Or.inr rfl) (pe_op op_add (pv 3) pe_int))) (pss_one (ps_if (pt_cut (PW.pt (pw_and (pt_cmpR op_gt (pv 7) pe_int (nomark _)) (pw_and1 (pt_cmpR op_lt (pv 4) (pe_ix ix_tup (pv 0) pe_int (fun _ _ => rfl)) (nomark _)))))) (pss_one (ps_set (i := 4) sc__law_ticks.nd rfl (by first | exact Or.inl rfl | exact Or.inr rfl) (pe_op op_add (pv 4) pe_int))) (pss_one (ps_if (pt_cmpR op_gt (pv 7) pe_int (nomark _)) (pss_one (ps_set (i := 5) sc__law_ticks.nd rfl (by first | exact Or.inl rfl | exact Or.inr rfl) (pe_op op_add (pv 5) pe_int))) (pss_one (ps_if (pt_cmpR op_gt (pv 3) pe_int (nomark _)) (pss_one (ps_set (i := 3) sc__law_ticks.nd rfl (by first | exact Or.inl rfl | exact Or.inr rfl) (pe_op op_sub (pv 3) pe_int))) (pss_one (ps_if (pt_cmpR op_gt (pv 4) pe_int (nomark _)) (pss_one (ps_set (i := 4) sc__law_ticks.nd rfl (by first | exact Or.inl rfl | exact Or.inr rfl) (pe_op op_sub (pv 4) pe_int))) (pss_one (ps_set (i := 6) sc__law_ticks.nd rfl (by first | exact Or.inl rfl | exact Or.inr rfl) (pe_op op_add (pv 6) pe_int)))))))))))))))) (pss_one (ps_ret (pe_tupG (pa_cons (pe_tupG (pa_cons (pv 3) (pa_cons (pv 4) pa_nil))) (pa_cons (pe_tupG (pa_cons (pv 5) (pa_cons (pv 6) pa_nil))) pa_nil)))))))), ?_⟩
    refine ⟨_, rfl, _, _, rfl, hb, rfl, _, _, rfl, _, _, rfl, rfl, ?_⟩
    refine ⟨(by show 2 ≤ sizeLine; decide), fun p0 H0 n0 e0 h0 => ?_⟩
    refine ⟨_, _, rfl, sqT h0, rfl, _, _, rfl, _, _, rfl, rfl, ?_⟩
    have ha0 := Evl.ex_t e0 ha
    have hc0 := Evl.ex_l e0 hc
    refine ⟨_, rfl, c, rfl, ⟨_, hc0⟩, for_list (K := K) (a := c) (xs := ts.map V.int) (fun i σ H' => ∃ (x : Two × Two) (v1 v2 : Option V), σ = [some (.ref a), some (.ref b), some (.ref c), some (.int x.1.1), some (.int x.1.2), some (.int x.2.1), some (.int x.2.2), v1, v2] ∧ H' = H0 ∧ x = lose R S (ts.take i))
      ⟨(S, (0, 0)), _, _, rfl, rfl, rfl⟩ (fun i σ H' _ ⟨_, _, _, _, e, _⟩ => by rw [e]; exact hc0) ?_ ?_⟩
    · rintro i y σ H' hi ⟨x, v1, v2, rfl, rfl, ex⟩
      obtain ⟨t, ht, rfl⟩ := mapI_get hi
      have hbd := bd t (List.mem_of_getElem? ht)
      have okx : Ok R x.1 := by
        rw [ex]
        exact lose_ok ok _
      refine ⟨_, rfl, _, rfl, _, rfl, (by split <;> omega), (by split <;> omega), for_range (lo := 0) (n := (if t < 0 then -t else t).toNat) (fun j σ H2 => ∃ (z : Two × Two) (v2 : Option V), σ = [some (.ref a), some (.ref b), some (.ref c), some (.int z.1.1), some (.int z.1.2), some (.int z.2.1), some (.int z.2.2), some (.int t), v2] ∧ H2 = H' ∧ z = ticks R x t j)
        ⟨x, _, rfl, rfl, (ticks_zero okx t).symm⟩ ?_ ?_⟩
      · rintro j σ H2 hj ⟨z, v2, rfl, rfl, ez⟩
        -- the two tests of both
        refine ⟨fun bb H3 => H3 = H2 ∧ bb = (decide (0 < t) && decide (z.1.1 < R.1)), ?_, ?_⟩
        · refine ⟨_, rfl, _, _, rfl, rfl, _, rfl, ?_⟩
          refine ifB (fun q => ?_) (fun q => ⟨rfl, by rw [q]; rfl⟩)
          refine ⟨_, rfl, _, rfl, _, _, _, _, rfl, rfl, ha0, at0, _, _, rfl, rfl, _, rfl, rfl, ?_⟩
          rw [q]
          rfl
        rintro bb H3 ⟨rfl, ebb⟩
        have up : ∀ c : Bool, t > 0 → ticks R x t ((j + 1 : Nat) : Int) = lstep R x ((j : Int) + 1) := fun _ ht => by
          unfold ticks
          rw [if_pos ht]
          rfl
        have dn : ∀ c : Bool, ¬ t > 0 → ticks R x t ((j + 1 : Nat) : Int) = lstep R x (0 - ((j : Int) + 1)) := fun _ ht => by
          unfold ticks
          rw [if_neg ht]
          rfl
        have ezu : t > 0 → z = lstep R x (j : Int) := fun h => by rw [ez]; exact if_pos h
        have ezd : ¬ t > 0 → z = lstep R x (0 - (j : Int)) := fun h => by rw [ez]; exact if_neg h
        refine ifB (fun q => ?_) (fun q => ?_)
        · rw [ebb, Bool.and_eq_true] at q
          have q1 := of_decide_eq_true q.1
          have q2 := of_decide_eq_true q.2
          refine ⟨_, rfl, _, _, rfl, rfl, ?_⟩
          refine ⟨((z.1.1 + 1, z.1.2), z.2), _, rfl, rfl, ?_⟩
          rw [up true q1, ltick_down okx (by omega), ← ezu q1, if_pos q2]
        · refine ⟨fun bb H3' => H3' = H3 ∧ bb = (decide (0 < t) && decide (z.1.2 < R.2)), ?_, ?_⟩
          · refine ⟨_, rfl, _, _, rfl, rfl, _, rfl, ?_⟩
            refine ifB (fun q => ?_) (fun q => ⟨rfl, by rw [q]; rfl⟩)
            refine ⟨_, rfl, _, rfl, _, _, _, _, rfl, rfl, ha0, at1, _, _, rfl, rfl, _, rfl, rfl, ?_⟩
            rw [q]
            rfl
          rintro bb2 H3' ⟨rfl, ebb2⟩
          refine ifB (fun q' => ?_) (fun q' => ?_)
          · rw [ebb2, Bool.and_eq_true] at q'
            have q1 := of_decide_eq_true q'.1
            have q2 := of_decide_eq_true q'.2
            have q3 : ¬ z.1.1 < R.1 := by
              rw [ebb, decide_eq_true q1, Bool.true_and] at q
              exact of_decide_eq_false q
            refine ⟨_, rfl, _, _, rfl, rfl, ?_⟩
            refine ⟨((z.1.1, z.1.2 + 1), z.2), _, rfl, rfl, ?_⟩
            rw [up true q1, ltick_down okx (by omega), ← ezu q1, if_neg q3, if_pos q2]
          · refine ⟨_, rfl, _, _, rfl, rfl, _, rfl, ?_⟩
            refine ifB (fun r => ?_) (fun r => ?_)
            · have q1 : t > 0 := of_decide_eq_true r
              have q3 : ¬ z.1.1 < R.1 := by
                rw [ebb, decide_eq_true q1, Bool.true_and] at q
                exact of_decide_eq_false q
              have q4 : ¬ z.1.2 < R.2 := by
                rw [ebb2, decide_eq_true q1, Bool.true_and] at q'
                exact of_decide_eq_false q'
              refine ⟨_, rfl, _, _, rfl, rfl, ?_⟩
              refine ⟨(z.1, (z.2.1 + 1, z.2.2)), _, rfl, rfl, ?_⟩
              rw [up true q1, ltick_down okx (by omega), ← ezu q1, if_neg q3, if_neg q4]
            · have q1 : ¬ t > 0 := of_decide_eq_false r
              refine ⟨_, rfl, _, _, rfl, rfl, _, rfl, ?_⟩
              refine ifB (fun u => ?_) (fun u => ?_)
              · have u' : z.1.1 > 0 := of_decide_eq_true u
                refine ⟨_, rfl, _, _, rfl, rfl, ?_⟩
                refine ⟨((z.1.1 - 1, z.1.2), z.2), _, rfl, rfl, ?_⟩
                rw [dn true q1, ltick_up okx (by omega), ← ezd q1, if_pos u']
              · have u' : ¬ z.1.1 > 0 := of_decide_eq_false u
                refine ⟨_, rfl, _, _, rfl, rfl, _, rfl, ?_⟩
                refine ifB (fun u2 => ?_) (fun u2 => ?_)
                · have u2' : z.1.2 > 0 := of_decide_eq_true u2
                  refine ⟨_, rfl, _, _, rfl, rfl, ?_⟩
                  refine ⟨((z.1.1, z.1.2 - 1), z.2), _, rfl, rfl, ?_⟩
                  rw [dn true q1, ltick_up okx (by omega), ← ezd q1, if_neg u', if_pos u2']
                · have u2' : ¬ z.1.2 > 0 := of_decide_eq_false u2
                  refine ⟨_, rfl, _, _, rfl, rfl, ?_⟩
                  refine ⟨(z.1, (z.2.1, z.2.2 + 1)), _, rfl, rfl, ?_⟩
                  rw [dn true q1, ltick_up okx (by omega), ← ezd q1, if_neg u', if_neg u2']
      · rintro σ H2 ⟨z, v2, rfl, rfl, ez⟩
        refine ⟨z, _, _, rfl, rfl, ?_⟩
        rw [ez, take_next ht, lose_app, ← ex]
        have en : (((if t < 0 then -t else t).toNat : Nat) : Int) = if t < 0 then -t else t := by split <;> omega
        rw [en, ticks_all]
    · rintro σ H' ⟨x, v1, v2, rfl, rfl, ex⟩
      rw [List.length_map, List.take_of_length_le (Nat.le_refl _)] at ex
      refine ⟨_, rfl, _, rfl, (by show 2 ≤ sizeLine; decide), fun p1 H1 n1 e1 h1 => ?_⟩
      refine ⟨_, rfl, _, rfl, (by show 2 ≤ sizeLine; decide), fun p2 H2 n2 e2 h2 => ?_⟩
      refine ⟨(by show 2 ≤ sizeLine; decide), fun p3 H3 n3 e3 h3 => ?_⟩
      have ef : x.1 = after R S ts := by rw [ex, lose_here]
      refine k p3 p1 p2 H3 (Evl.fresh_back (e0.trans (e1.trans e2)) n3) (e0.trans (e1.trans (e2.trans e3))) h3 ?_ ?_
      · rw [← ef]
        exact e3 _ _ (e2 _ _ h1)
      · rw [← ex]
        exact e3 _ _ h2
end
end K34
set_option Elab.async false
set_option linter.all false
set_option maxRecDepth 100000
set_option maxHeartbeats 4000000
namespace My
open PySem L2
/-- a comprehension over zip of two tuples of one length -/
theorem lc_zipT {K : PySem.W.Frag} {a b : Addr} {xs ys : List V} {g : TG} {tt : TT} {te : TE} {vs : List Nat} {σ : L2.St} {H1 : Hp} {D : Addr} {Qd : Hp → Prop} (hl : xs.length = ys.length) (Pv : Nat → Hp → Prop) (h0 : Pv 0 (upd H1 D (.lst []))) (hq : ∀ i H, Pv i H → SqT K H a xs ∧ SqT K H b ys)
    (hs : ∀ (i : Nat) (x y : V) (T : Addr) H, xs[i]? = some x → ys[i]? = some y → Pv i H → H T = none → g (.ref T) (wipe σ vs) (upd H T (.tup [x, y])) fun σ2 H2 => wipe σ2 vs = wipe σ vs ∧ tt σ2 H2 fun b H3 =>
      if b = true then te σ2 H3 fun y H4 => ∃ acc, H4 D = some (.lst acc) ∧ acc.length < sizeLine ∧ Pv (i + 1) (upd H4 D (.lst (acc ++ [y]))) else Pv (i + 1) H3) (hd : ∀ H, Pv xs.length H → Qd H) :
    ∃ W : Nat → Nat → Hp → Prop, (∃ m, W 0 m (upd H1 D (.lst []))) ∧ ∀ i m H, W i m H →
      ((RZ.ItzT K a b).stop i H ∧ Qd H) ∨ ((RZ.ItzT K a b).go i H ∧ ∃ Nx : Hp → Prop, (∀ H', Nx H' → ∃ m', m' < m ∧ W (i + 1) m' H') ∧ ∀ x H', (RZ.ItzT K a b).yld i H x H' → g x (wipe σ vs) H' fun σ2 H2 => wipe σ2 vs = wipe σ vs ∧ tt σ2 H2 fun b H3 =>
        if b = true then te σ2 H3 fun y H4 => ∃ acc, H4 D = some (.lst acc) ∧ acc.length < sizeLine ∧ Nx (upd H4 D (.lst (acc ++ [y]))) else Nx H3) := by
  refine ⟨fun i m H => m = xs.length - i ∧ i ≤ xs.length ∧ Pv i H, ⟨xs.length, by simp, Nat.zero_le _, h0⟩, ?_⟩
  rintro i m H ⟨rfl, hi, p⟩
  obtain ⟨qx, qy⟩ := hq i H p
  by_cases hlt : i < xs.length
  · have hx : xs[i]? = some xs[i] := List.getElem?_eq_getElem hlt
    have hlt2 : i < ys.length := by omega
    have hy : ys[i]? = some ys[i] := List.getElem?_eq_getElem hlt2
    refine .inr ⟨⟨xs, ys, _, _, qx, qy, hx, hy⟩, Pv (i + 1), fun H' p' => ⟨xs.length - (i + 1), by omega, rfl, hlt, p'⟩, fun v H' y => ?_⟩
    obtain ⟨T, x, z, rfl, nT, rfl, fx, fy⟩ := y
    exact hs i x z T H (fx xs qx) (fy ys qy) p nT
  · have e : i = xs.length := by omega
    subst e
    exact .inl ⟨⟨xs, ys, qx, qy, .inl (Nat.le_refl _)⟩, hd H p⟩
end My
namespace K34
open PySem L2 My
def dueV (R S : Two) : V := if R.1 < 0 then .int R.1 else if R.2 < 0 then .int R.2 else if S.1 < 0 ∨ R.1 < S.1 then .int S.1 else if S.2 < 0 ∨ R.2 < S.2 then .int S.2 else .non
theorem due1 {R S : Two} (h : R.1 < 0) : dueV R S = .int R.1 := if_pos h
theorem due2 {R S : Two} (h : 0 ≤ R.1) (h2 : R.2 < 0) : dueV R S = .int R.2 := by
  unfold dueV
  rw [if_neg (by omega), if_pos h2]
theorem due3 {R S : Two} (h : 0 ≤ R.1) (h2 : 0 ≤ R.2) (h3 : ¬ (0 ≤ S.1 ∧ S.1 ≤ R.1)) : dueV R S = .int S.1 := by
  unfold dueV
  rw [if_neg (by omega), if_neg (by omega), if_pos (by omega)]
theorem due4 {R S : Two} (h : 0 ≤ R.1) (h2 : 0 ≤ R.2) (h3 : 0 ≤ S.1) (h4 : S.1 ≤ R.1) (h5 : ¬ (0 ≤ S.2 ∧ S.2 ≤ R.2)) : dueV R S = .int S.2 := by
  unfold dueV
  rw [if_neg (by omega), if_neg (by omega), if_neg (by omega), if_pos (by omega)]
theorem due5 {R S : Two} (h : 0 ≤ R.1) (h2 : 0 ≤ R.2) (h3 : Ok R S) : dueV R S = .non := by
  obtain ⟨h4, h5, h6, h7⟩ := h3
  unfold dueV
  rw [if_neg (by omega), if_neg (by omega), if_neg (by omega), if_neg (by omega)]
theorem due_scal (R S : Two) : scal (dueV R S) (dueV R S) = true := by
  unfold dueV
  split
  · rfl
  · split
    · rfl
    · split
      · rfl
      · split <;> rfl
def sp__law_due (K : PySem.W.Frag) : Sp := fun vs H Q _ => ∃ (a b : Addr) (R S : Two), vs = [.ref a, .ref b] ∧ SqT K H a (t2 R) ∧ SqT K H b (t2 S) ∧ Evl.RetV (dueV R S) H Q
def sp__law_refused (K : PySem.W.Frag) : Sp := fun vs H Q _ => ∃ (n : Int) (a b c : Addr) (R S : Two) (ts : List Int), vs = [.int n, .ref a, .ref b, .ref c] ∧ SqT K H a (t2 R) ∧ SqT K H b (t2 S) ∧ SqL K H c (ts.map V.int) ∧ Evl.RetV (if n = 0 ∨ n = 1 then dueV R S else dueV R (0, 0)) H Q
def sp__law_clipped_right (K : PySem.W.Frag) : Sp := fun vs H Q _ => ∃ (a b : Addr) (R S : Two) (wd : Int), vs = [.ref a, .ref b, .int wd] ∧ SqT K H a (t2 R) ∧ SqT K H b (t2 S) ∧ 0 < wd ∧ wd < 2 ^ 100 ∧ 0 ≤ R.1 ∧ R.1 ≤ 100 ∧ 0 ≤ R.2 ∧ R.2 ≤ 100 ∧ -100 ≤ S.1 ∧ S.1 ≤ 100 ∧ -100 ≤ S.2 ∧ S.2 ≤ 100 ∧ Evl.RetV (.bl true) H Q
def sp__law_room_right : Sp := fun vs H Q _ => ∃ (j : Addr) (B : Int), vs = [.ref j] ∧ Jug H j B ∧ B ≤ 2 ^ 50 ∧ ∀ H', Exj j H H' → Jug H' j (B + 2) → Q (.bl true) H'
section
variable {w : World} {K : PySem.W.Frag} {mg : Str → Option Value} {base : Heap}
theorem ok__law_due (T : Txt K mg) : FnOk PR w K mg base CX0 1 T.a__law_due T.d__law_due ["_law_rooms", "_law_scrolls"] (sp__law_due K) := by
  refine T.f__law_due.ok sc__law_due (fun vs H Q E h => ?_) (fun cdv A outer s H vs Q E hr h => ?_)
  · obtain ⟨a, b, R, S, rfl, _⟩ := h
    rfl
  · obtain ⟨a, b, R, S, rfl, ha, hb, k⟩ := h
    refine ⟨_, (pss_cons (ps_for PassesOwn.never rfl (pi_tup (pv 0)) (pg_name (i := 2) sc__law_due.nd rfl (by first | exact Or.inl rfl | exact Or.inr rfl)) (pss_one (ps_if (pt_cmpR op_lt (pv 2) pe_int (nomark _)) (pss_one (ps_ret (pv 2))) pss_nil))) (pss_cons (ps_for PassesOwn.never rfl (RZ.pi_zipA (by rfl) T.z_zip (pa_cons (pv 0) (pa_cons (pv 1) pa_nil))) (pg_tup rfl (pgs_cons (pg_name (i := 3) sc__law_due.nd rfl (by first | exact Or.inl rfl | exact Or.inr rfl)) (pgs_cons (pg_name (i := 4) sc__law_due.nd rfl (by first | exact Or.inl rfl | exact Or.inr rfl)) pgs_nil))) (pss_one (ps_if (pt_cut (PW.pt (pw_or (pt_cmpR op_lt (pv 4) pe_int (nomark _)) (pw_or1 (pt_cmpR op_gt (pv 4) (pv 3) (nomark _)))))) (pss_one (ps_ret (pv 4))) pss_nil))) (pss_one (ps_ret pe_non)))), ?_⟩
    refine ⟨_, rfl, a, rfl, ⟨_, ha⟩, for_tup (K := K) (a := a) (xs := t2 R) (fun i σ H' => ∃ v, σ = [some (.ref a), some (.ref b), v, none, none] ∧ H' = H ∧ (0 < i → 0 ≤ R.1) ∧ (1 < i → 0 ≤ R.2)) ⟨_, rfl, rfl, fun z => by omega, fun z => by omega⟩ (fun i σ H' _ ⟨_, _, e, _⟩ => by rw [e]; exact ha) ?_ ?_⟩
    · rintro i x σ H' hi ⟨v, rfl, rfl, h1, h2⟩
      match i, hi with
      | 0, hi =>
        have e : V.int R.1 = x := Option.some.inj hi
        subst e
        refine ⟨_, rfl, _, _, rfl, rfl, _, rfl, ?_⟩
        refine ifB (fun c => ?_) (fun c => ?_)
        · refine ⟨_, rfl, ?_⟩
          rw [← due1 (S := S) (of_decide_eq_true c)]
          exact k _ (Evl.Ex.refl _)
        · have := of_decide_eq_false c
          exact ⟨_, rfl, rfl, fun _ => by omega, fun z => by omega⟩
      | 1, hi =>
        have e : V.int R.2 = x := Option.some.inj hi
        subst e
        have h0 := h1 (by omega)
        refine ⟨_, rfl, _, _, rfl, rfl, _, rfl, ?_⟩
        refine ifB (fun c => ?_) (fun c => ?_)
        · refine ⟨_, rfl, ?_⟩
          rw [← due2 (S := S) h0 (of_decide_eq_true c)]
          exact k _ (Evl.Ex.refl _)
        · have := of_decide_eq_false c
          exact ⟨_, rfl, rfl, fun _ => h0, fun z => by omega⟩
    · rintro σ H' ⟨v, rfl, rfl, h1, h2⟩
      have r1 := h1 (by show 0 < 2; omega)
      have r2 := h2 (by show 1 < 2; omega)
      refine ⟨_, rfl, _, rfl, a, b, _, _, rfl, .inr ⟨ha, hb, RZ.for_zipT (K := K) (a := a) (b := b) (xs := t2 R) (ys := t2 S) rfl (fun i σ H2 => ∃ u v', σ = [some (.ref a), some (.ref b), v, u, v'] ∧ Ex H' H2 ∧ (0 < i → 0 ≤ S.1 ∧ S.1 ≤ R.1) ∧ (1 < i → 0 ≤ S.2 ∧ S.2 ≤ R.2))
        ⟨_, _, rfl, Evl.Ex.refl _, fun z => by omega, fun z => by omega⟩ (fun i σ H' ⟨_, _, _, e, _⟩ => ⟨Evl.ex_t e ha, Evl.ex_t e hb⟩) ?_ ?_⟩⟩
      · rintro i x y p σ H3 hx hy ⟨u, v', rfl, e, h1, h2⟩ np
        have e2 : Ex H' (upd H3 p (.tup [x, y])) := e.trans (Evl.Ex.new np)
        have hp : upd H3 p (.tup [x, y]) p = some (.tup [x, y]) := upd_same
        generalize upd H3 p (.tup [x, y]) = H2 at e2 hp ⊢
        refine ⟨_, _, rfl, sqT hp, rfl, _, _, rfl, _, _, rfl, rfl, ?_⟩
        match i, hx, hy with
        | 0, hx, hy =>
          have ex : V.int R.1 = x := Option.some.inj hx
          have ey : V.int S.1 = y := Option.some.inj hy
          subst ex
          subst ey
          refine ⟨fun bb H4 => H4 = H2 ∧ bb = (decide (S.1 < 0) || decide (S.1 > R.1)), ?_, ?_⟩
          · refine ⟨_, rfl, _, _, rfl, rfl, _, rfl, ?_⟩
            refine ifB (fun c => ⟨rfl, by rw [c]; rfl⟩) (fun c => ?_)
            refine ⟨_, rfl, _, rfl, _, _, rfl, rfl, _, rfl, rfl, ?_⟩
            rw [c]
            rfl
          rintro bb H4 ⟨rfl, ebb⟩
          refine ifB (fun c => ?_) (fun c => ?_)
          · refine ⟨_, rfl, ?_⟩
            rw [ebb, Bool.or_eq_true, decide_eq_true_eq, decide_eq_true_eq] at c
            rw [← due3 r1 r2 (by omega)]
            exact k _ e2
          · rw [ebb, Bool.or_eq_false_iff, decide_eq_false_iff_not, decide_eq_false_iff_not] at c
            exact ⟨_, _, rfl, e2, fun _ => by omega, fun z => by omega⟩
        | 1, hx, hy =>
          have ex : V.int R.2 = x := Option.some.inj hx
          have ey : V.int S.2 = y := Option.some.inj hy
          subst ex
          subst ey
          obtain ⟨g1, g2⟩ := h1 (by omega)
          refine ⟨fun bb H4 => H4 = H2 ∧ bb = (decide (S.2 < 0) || decide (S.2 > R.2)), ?_, ?_⟩
          · refine ⟨_, rfl, _, _, rfl, rfl, _, rfl, ?_⟩
            refine ifB (fun c => ⟨rfl, by rw [c]; rfl⟩) (fun c => ?_)
            refine ⟨_, rfl, _, rfl, _, _, rfl, rfl, _, rfl, rfl, ?_⟩
            rw [c]
            rfl
          rintro bb H4 ⟨rfl, ebb⟩
          refine ifB (fun c => ?_) (fun c => ?_)
          · refine ⟨_, rfl, ?_⟩
            rw [ebb, Bool.or_eq_true, decide_eq_true_eq, decide_eq_true_eq] at c
            rw [← due4 r1 r2 g1 g2 (by omega)]
            exact k _ e2
          · rw [ebb, Bool.or_eq_false_iff, decide_eq_false_iff_not, decide_eq_false_iff_not] at c
            exact ⟨_, _, rfl, e2, fun _ => ⟨g1, g2⟩, fun z => by omega⟩
      · rintro σ H2 ⟨u, v', rfl, e, h1, h2⟩
        have g1 := h1 (by show 0 < 2; omega)
        have g2 := h2 (by show 1 < 2; omega)
        have q := k _ e
        rw [due5 r1 r2 ⟨g1.1, g1.2, g2.1, g2.2⟩] at q
        exact q
theorem ok__law_refused (T : Txt K mg) : FnOk PR w K mg base CX0 6 T.a__law_refused T.d__law_refused ["_law_word", "_law_rooms", "_law_scrolls", "_law_turns_here"] (sp__law_refused K) := by
  refine T.f__law_refused.ok sc__law_refused (fun vs H Q E h => ?_) (fun cdv A outer s H vs Q E hr h => ?_)
  · obtain ⟨n, a, b, c, R, S, ts, rfl, _⟩ := h
    rfl
  · obtain ⟨n, a, b, c, R, S, ts, rfl, ha, hb, hc, k⟩ := h
    refine ⟨_, (pss_cons (ps_cut (ps_try_as (i := 4) rfl rfl sc__law_refused.nd rfl rfl ⟨by rfl, by decide, .inl T.g_InvalidNumber⟩ takes0 (fun W pn xe tk po => (pss_one (ps_if (pt_cmpR op_eq (pv 0) pe_int (nomark _)) (pss_one (ps_expr (pe_callS (ok_turned_by T) (hr.mono (by decide)) (by rfl) T.g_turned_by T.f_turned_by.kp (b_turned_by T) (fun σ => passAt tk σ) (pa_cons (pv 1) (pa_cons (pv 2) (pa_cons (pv 3) pa_nil)))))) (pss_one (ps_if (pt_cmpR op_eq (pv 0) pe_int (nomark _)) (pss_one (ps_expr (pe_callS (ok_lost T) (hr.mono (by decide)) (by rfl) T.g_lost T.f_lost.kp (b_lost T) (fun σ => passAt tk σ) (pa_cons (pv 1) (pa_cons (pv 2) (pa_cons (pv 3) pa_nil)))))) (pss_one (ps_expr (pe_callS (ok_clipped T) (hr.mono (by decide)) (by rfl) T.g_clipped T.f_clipped.kp (b_clipped T) (fun σ => passAt tk σ) (pa_cons (pv 1) (pa_cons (pv 2) pa_nil)))))))))) (fun a oe cls d pn hz hf => (pss_one (ps_ret (pe_xf T.e_InvalidNumber.xf T.e_InvalidNumber.nov hz hf (pv 4))))))) (pss_one (ps_ret pe_non))), ?_⟩
    refine ⟨fun σ' H' => Q .non H', ?_, fun σ' H' q => q⟩
    refine ⟨_, rfl, rfl, _, rfl, ?_⟩
    refine ifB (fun q => ?_) (fun q => ?_)
    · have q' : n = 0 := by simpa using q
      rw [if_pos (.inl q')] at k
      refine ⟨_, rfl, _, rfl, _, rfl, a, b, c, R, S, ts, rfl, ha, hb, hc, fun r1 r2 ok p1 H1 n1 e1 h1 => ?_, fun c1 => ?_, fun c1 c2 => ?_, fun c1 c2 c3 => ?_, fun c1 c2 c3 c4 c5 => ?_⟩
      · rw [due5 r1 r2 ok] at k
        exact k _ e1
      · rw [due1 c1] at k
        exact fun d H' hd e hx => ⟨true, T.x_InvalidNumber_InvalidNumber, fun _ a ha => ⟨_, rfl, rfl, rfl, d, _, _, rfl, hx, rfl, k _ e⟩, fun q => nomatch q⟩
      · rw [due2 c1 c2] at k
        exact fun d H' hd e hx => ⟨true, T.x_InvalidNumber_InvalidNumber, fun _ a ha => ⟨_, rfl, rfl, rfl, d, _, _, rfl, hx, rfl, k _ e⟩, fun q => nomatch q⟩
      · rw [due3 c1 c2 c3] at k
        exact fun d H' hd e hx => ⟨true, T.x_InvalidNumber_InvalidNumber, fun _ a ha => ⟨_, rfl, rfl, rfl, d, _, _, rfl, hx, rfl, k _ e⟩, fun q => nomatch q⟩
      · rw [due4 c1 c2 c3 c4 c5] at k
        exact fun d H' hd e hx => ⟨true, T.x_InvalidNumber_InvalidNumber, fun _ a ha => ⟨_, rfl, rfl, rfl, d, _, _, rfl, hx, rfl, k _ e⟩, fun q => nomatch q⟩
    · refine ⟨_, rfl, rfl, _, rfl, ?_⟩
      refine ifB (fun q2 => ?_) (fun q2 => ?_)
      · have q' : n = 1 := by simpa using q2
        rw [if_pos (.inr q')] at k
        refine ⟨_, rfl, _, rfl, _, rfl, a, b, c, R, S, ts, rfl, ha, hb, hc, fun r1 r2 ok p1 H1 n1 e1 h1 => ?_, fun c1 => ?_, fun c1 c2 => ?_, fun c1 c2 c3 => ?_, fun c1 c2 c3 c4 c5 => ?_⟩
        · rw [due5 r1 r2 ok] at k
          exact k _ e1
        · rw [due1 c1] at k
          exact fun d H' hd e hx => ⟨true, T.x_InvalidNumber_InvalidNumber, fun _ a ha => ⟨_, rfl, rfl, rfl, d, _, _, rfl, hx, rfl, k _ e⟩, fun q => nomatch q⟩
        · rw [due2 c1 c2] at k
          exact fun d H' hd e hx => ⟨true, T.x_InvalidNumber_InvalidNumber, fun _ a ha => ⟨_, rfl, rfl, rfl, d, _, _, rfl, hx, rfl, k _ e⟩, fun q => nomatch q⟩
        · rw [due3 c1 c2 c3] at k
          exact fun d H' hd e hx => ⟨true, T.x_InvalidNumber_InvalidNumber, fun _ a ha => ⟨_, rfl, rfl, rfl, d, _, _, rfl, hx, rfl, k _ e⟩, fun q => nomatch q⟩
        · rw [due4 c1 c2 c3 c4 c5] at k
          exact fun d H' hd e hx => ⟨true, T.x_InvalidNumber_InvalidNumber, fun _ a ha => ⟨_, rfl, rfl, rfl, d, _, _, rfl, hx, rfl, k _ e⟩, fun q => nomatch q⟩
      · have q' : ¬ (n = 0 ∨ n = 1) := by
          have h1 : ¬ n = 0 := by simpa using q
          have h2 : ¬ n = 1 := by simpa using q2
          omega
        rw [if_neg q'] at k
        refine ⟨_, rfl, _, rfl, a, b, R, S, rfl, ha, hb, fun r1 r2 p1 H1 n1 e1 h1 => ?_, fun c1 => ?_, fun c1 c2 => ?_⟩
        · rw [due5 r1 r2 ⟨by decide, r1, by decide, r2⟩] at k
          exact k _ e1
        · rw [due1 c1] at k
          exact fun d H' hd e hx => ⟨true, T.x_InvalidNumber_InvalidNumber, fun _ a ha => ⟨_, rfl, rfl, rfl, d, _, _, rfl, hx, rfl, k _ e⟩, fun q => nomatch q⟩
        · rw [due2 c1 c2] at k
          exact fun d H' hd e hx => ⟨true, T.x_InvalidNumber_InvalidNumber, fun _ a ha => ⟨_, rfl, rfl, rfl, d, _, _, rfl, hx, rfl, k _ e⟩, fun q => nomatch q⟩
end
end K34
set_option Elab.async false
set_option linter.all false
set_option maxRecDepth 100000
set_option maxHeartbeats 4000000
namespace K34
open PySem L2 My
/-- twos compared -/
theorem ne2 {K : PySem.W.Frag} {H : Hp} {a b : Addr} {S S' : Two} {Q : VK} (h1 : SqT K H a (t2 S)) (h2 : SqT K H b (t2 S')) (e : S = S') (q : Q (.bl false) H) : rNeD K (.ref a) (.ref b) H Q := by
  subst e
  refine neE (goodT goodI) (by decide) (dpT (ns := [S.1, S.2]) h1) (dpT (ns := [S.1, S.2]) h2) ?_
  rw [decide_eq_true rfl]
  exact q
theorem eq2 {K : PySem.W.Frag} {H : Hp} {a b : Addr} {S S' : Two} {Q : VK} (h1 : SqT K H a (t2 S)) (h2 : SqT K H b (t2 S')) (e : S = S') (q : Q (.bl true) H) : rEqD K (.ref a) (.ref b) H Q := by
  subst e
  refine eqE (goodT goodI) (by decide) (dpT (ns := [S.1, S.2]) h1) (dpT (ns := [S.1, S.2]) h2) ?_
  rw [decide_eq_true rfl]
  exact q
section
variable {w : World} {K : PySem.W.Frag} {mg : Str → Option Value} {base : Heap}
theorem ok__law_clipped_right (T : Txt K mg) : FnOk PR w K mg base CX0 6 T.a__law_clipped_right T.d__law_clipped_right ["_law_rooms", "_law_scrolls", "_law_width"] (sp__law_clipped_right K) := by
  refine T.f__law_clipped_right.ok sc__law_clipped_right (fun vs H Q E h => ?_) (fun cdv A outer s H vs Q E hr h => ?_)
  · obtain ⟨a, b, R, S, wd, rfl, _⟩ := h
    rfl
  · obtain ⟨a, b, R, S, wd, rfl, ha, hb, w0, w1, r1, r2, r3, r4, s1, s2, s3, s4, k⟩ := h
    refine ⟨_, (pss_cons (ps_for PassesOwn.never rfl (pi_list (pe_lstG (pa_cons pe_int (pa_cons (pv 2) pa_nil)))) (pg_name (i := 3) sc__law_clipped_right.nd rfl (by first | exact Or.inl rfl | exact Or.inr rfl)) (pss_cons (ps_set (i := 4) sc__law_clipped_right.nd rfl (by first | exact Or.inl rfl | exact Or.inr rfl) (pe_callK0 (ok_clipped T) (hr.mono (by decide)) (by rfl) T.g_clipped T.f_clipped.kp (kb_clipped_0_scrolls_rooms T) passL (pk_cons (pe_tupG (pa_cons (pe_op op_mulW (pv 3) (pe_ix ix_tup (pv 1) pe_int (fun _ _ => rfl))) (pa_cons (pe_op op_mulW (pv 3) (pe_ix ix_tup (pv 1) pe_int (fun _ _ => rfl))) pa_nil))) (pk_cons (pe_tupG (pa_cons (pe_op op_mulW (pv 3) (pe_ix ix_tup (pv 0) pe_int (fun _ _ => rfl))) (pa_cons (pe_op op_mulW (pv 3) (pe_ix ix_tup (pv 0) pe_int (fun _ _ => rfl))) pa_nil))) pk_nil)))) (pss_cons (ps_setLc (i := 5) (own := [("_law_size", 6), ("_law_scroll", 7)]) (g := (gTup K 2 (gCons (gName 6) (gCons (gName 7) gNil)))) (by rfl) sc__law_clipped_right.nd rfl rfl (sw_true rfl rfl rfl (by decide +kernel)) (RZ.pi_zipA (by rfl) T.z_zip (pa_cons (pv 0) (pa_cons (pv 1) pa_nil))) (blkOk_by (own := [("_law_size", 6), ("_law_scroll", 7)]) (N := ["_law_rooms", "_law_scrolls", "_law_width", "_law_many", "_law_told", "_law_due_here", "_law_size", "_law_scroll"]) (sc := defScope s__law_clipped_right) (by decide +kernel)) (fun _ _ _ _ _ => (pg_tup rfl (pgs_cons (pg_name (i := 6) sc__law_clipped_right.nd rfl (by first | exact Or.inl rfl | exact Or.inr rfl)) (pgs_cons (pg_name (i := 7) sc__law_clipped_right.nd rfl (by first | exact Or.inl rfl | exact Or.inr rfl)) pgs_nil)))) (fun _ _ _ _ _ => pts_nil) (fun _ _ _ _ _ => (pe_ix (ixK (r := rIxL) (K := K) (by rfl) ix_list) (pe_callB (crK (r := rSortedG) (K := K) (by rfl) cr_sortedG) (by rfl) T.z_sorted (by decide +kernel) (pa_cons (pe_lstG (pa_cons pe_int (pa_cons (pe_op op_mulW (pv 3) (pv 7)) (pa_cons (pe_op op_mulW (pv 3) (pv 6)) pa_nil)))) pa_nil)) pe_int (fun _ _ => rfl)))) (pss_one (ps_if (pt_cmpR (op_neD hr.units) (pv 4) (pe_callTy call_tupleG (by rfl) T.z_tuple (by decide +kernel) (pa_cons (pv 5) pa_nil)) (nomark _)) (pss_one (ps_ret pe_bl)) pss_nil))))) (pss_one (ps_ret pe_bl))), ?_⟩
    refine ⟨_, rfl, (by show 2 ≤ sizeLine; decide), fun p1 H1 n1 e1 h1 => ?_⟩
    refine ⟨_, rfl, ⟨_, sqI h1⟩, for_list (K := K) (a := p1) (xs := [.int 1, .int wd]) (fun i σ H' => ∃ v1 v2 v3 v4 v5, σ = [some (.ref a), some (.ref b), some (.int wd), v1, v2, v3, v4, v5] ∧ Ex H1 H') ⟨_, _, _, _, _, rfl, Evl.Ex.refl _⟩ (fun i σ H' _ ⟨_, _, _, _, _, _, e⟩ => Evl.ex_l e (sqI h1)) ?_ ?_⟩
    · rintro i x σ H' hi ⟨v1, v2, v3, v4, v5, rfl, e⟩
      have hm : ∃ m : Int, x = .int m ∧ 0 < m ∧ m < 2 ^ 100 := by
        match i, hi with
        | 0, hi => exact ⟨1, (Option.some.inj hi).symm, by decide, by decide⟩
        | 1, hi => exact ⟨wd, (Option.some.inj hi).symm, w0, w1⟩
      obtain ⟨m, rfl, m0, m1⟩ := hm
      have bm : m.natAbs < 2 ^ 100 := by omega
      have ha' := Evl.ex_t (e1.trans e) ha
      have hb' := Evl.ex_t (e1.trans e) hb
      refine ⟨_, rfl, _, rfl, _, _, _, _, rfl, rfl, hb', at0, _, _, rfl, rfl, wide_mul (b := 10) bm (by omega) (by decide) (by decide) (by decide), _, rfl, _, rfl, _, _, _, _, rfl, rfl, hb', at1, _, _, rfl, rfl, wide_mul (b := 10) bm (by omega) (by decide) (by decide) (by decide), (by show 2 ≤ sizeLine; decide), fun p2 H2 n2 e2 h2 => ?_⟩
      refine ⟨_, rfl, _, rfl, _, _, _, _, rfl, rfl, Evl.ex_t e2 ha', at0, _, _, rfl, rfl, wide_mul (b := 10) bm (by omega) (by decide) (by decide) (by decide), _, rfl, _, rfl, _, _, _, _, rfl, rfl, Evl.ex_t e2 ha', at1, _, _, rfl, rfl, wide_mul (b := 10) bm (by omega) (by decide) (by decide) (by decide), (by show 2 ≤ sizeLine; decide), fun p3 H3 n3 e3 h3 => ?_⟩
      have mR1 : 0 ≤ m * R.1 := Int.mul_nonneg (by omega) r1
      have mR2 : 0 ≤ m * R.2 := Int.mul_nonneg (by omega) r3
      refine ⟨p3, p2, mul m R, mul m S, rfl, sqT h3, sqT (e3 _ _ h2), fun _ _ p4 H4 n4 e4 h4 => ?_, fun q => absurd q (by show ¬ m * R.1 < 0; omega), fun _ q => absurd q (by show ¬ m * R.2 < 0; omega)⟩
      have ha4 := Evl.ex_t (e2.trans (e3.trans e4)) ha'
      have hb4 := Evl.ex_t (e2.trans (e3.trans e4)) hb'
      refine ⟨_, rfl, _, rfl, a, b, _, _, rfl, .inr ⟨ha4, hb4, fun D hD => lc_zipT (xs := t2 R) (ys := t2 S) rfl (fun i H5 => Ex H4 H5 ∧ H5 D = some (.lst ([V.int (clip (mul m R) (mul m S)).1, V.int (clip (mul m R) (mul m S)).2].take i))) ⟨Evl.Ex.new hD, upd_same⟩ (fun i H5 z => ⟨Evl.ex_t z.1 ha4, Evl.ex_t z.1 hb4⟩) ?_ ?_⟩⟩
      · rintro i x y q H5 hx hy ⟨e5, d5⟩ nq
        have e6 : Ex H5 (upd H5 q (.tup [x, y])) := Evl.Ex.new nq
        have hp : upd H5 q (.tup [x, y]) q = some (.tup [x, y]) := upd_same
        generalize upd H5 q (.tup [x, y]) = H6 at e6 hp ⊢
        refine ⟨_, _, rfl, sqT hp, rfl, _, _, rfl, _, _, rfl, rfl, rfl, ?_⟩
        show _
        have main : ∃ r s : Int, x = .int r ∧ y = .int s ∧ 0 ≤ r ∧ r ≤ 100 ∧ -100 ≤ s ∧ s ≤ 100 ∧ [V.int (clip (mul m R) (mul m S)).1, V.int (clip (mul m R) (mul m S)).2].take (i + 1) = [V.int (clip (mul m R) (mul m S)).1, V.int (clip (mul m R) (mul m S)).2].take i ++ [V.int (mx 0 (mn (m * r) (m * s)))] := by
          match i, hx, hy with
          | 0, hx, hy => exact ⟨R.1, S.1, (Option.some.inj hx).symm, (Option.some.inj hy).symm, r1, r2, s1, s2, rfl⟩
          | 1, hx, hy => exact ⟨R.2, S.2, (Option.some.inj hx).symm, (Option.some.inj hy).symm, r3, r4, s3, s4, rfl⟩
        obtain ⟨r, s, ex, ey, g1, g2, g3, g4, gt⟩ := main
        subst ex
        subst ey
        refine ⟨_, rfl, _, rfl, _, _, rfl, rfl, wide_mul (b := 10) bm (by omega) (by decide) (by decide) (by decide), _, rfl, _, rfl, _, _, rfl, rfl, wide_mul (b := 10) bm (by omega) (by decide) (by decide) (by decide), (by show 3 ≤ sizeLine; decide), fun p5 H7 n5 e7 h7 => ?_⟩
        refine ⟨p5, [0, m * s, m * r], rfl, sqI h7, fun ns' pe so p6 H8 n6 e8 h8 => ?_⟩
        have mr : 0 ≤ m * r := Int.mul_nonneg (by omega) g1
        obtain ⟨x1, z1, en⟩ := mid_of pe so mr
        subst en
        refine ⟨_, _, _, _, rfl, rfl, sqI h8, at1, _, e8 _ _ (e7 _ _ (e6 _ _ d5)), ?_, ?_⟩
        · exact Nat.lt_of_le_of_lt (List.length_take_le' _ _) (by show 2 < sizeLine; decide)
        · refine ⟨Evl.Ex.mut (e5.trans (e6.trans (e7.trans e8))) hD, ?_⟩
          rw [upd_same, gt, mid_clip mr]
      · rintro H5 ⟨e5, d5⟩
        refine ⟨_, rfl, _, rfl, D, _, rfl, sqI d5, fun p7 H7 n7 e7 h7 => ?_⟩
        refine ne2 (S := clip (mul m R) (mul m S)) (sqT (e7 _ _ (e5 _ _ h4))) (sqT h7) rfl ⟨_, rfl, ?_⟩
        refine ifF rfl ?_
        exact ⟨_, _, _, _, _, rfl, e.trans (e2.trans (e3.trans (e4.trans (e5.trans e7))))⟩
    · rintro σ H' ⟨v1, v2, v3, v4, v5, rfl, e⟩
      exact k _ (e1.trans e)
def dueL (n h : Int) : List Int := if n < 0 then [n] else if h < 1 then [h] else []
theorem ok__law_room_right (T : Txt K mg) : FnOk PR w K mg base CX0 5 T.a__law_room_right T.d__law_room_right ["_law_jug_here"] sp__law_room_right := by
  refine T.f__law_room_right.ok sc__law_room_right (fun vs H Q E h => ?_) (fun cdv A outer s H vs Q E hr h => ?_)
  · obtain ⟨j, B, rfl, _⟩ := h
    rfl
  · obtain ⟨j, B, rfl, hj, hB, k⟩ := h
    refine ⟨_, (pss_cons (ps_par (by rfl) sc__law_room_right.nd rfl rfl (by decide) rfl rfl (i := 1) (j := 2) (pa_cons (pe_op op_sub (pe_call (ok__law_pour T) (hr.mono (by decide)) (by rfl) T.g__law_pour T.f__law_pour.kp (b__law_pour T) .nil pass0 (pa_cons (pv 0) (pa_cons pe_int pa_nil))) pe_int) (pa_cons (pe_op op_sub (pe_call (ok__law_pour T) (hr.mono (by decide)) (by rfl) T.g__law_pour T.f__law_pour.kp (b__law_pour T) .nil pass0 (pa_cons (pv 0) (pa_cons pe_int pa_nil))) pe_int) pa_nil)) (by rfl)) (pss_cons (ps_set (i := 3) sc__law_room_right.nd rfl (by first | exact Or.inl rfl | exact Or.inr rfl) (pe_cut (pe_ifExp (pt_cmpR op_lt (pv 1) pe_int (nomark _)) (pe_lstG (pa_cons (pv 1) pa_nil)) (pe_cut (pe_ifExp (pt_cmpR op_lt (pv 2) pe_int (nomark _)) (pe_lstG (pa_cons (pv 2) pa_nil)) (pe_lstG pa_nil)))))) (pss_cons (ps_set (i := 4) sc__law_room_right.nd rfl (by first | exact Or.inl rfl | exact Or.inr rfl) (pe_lstG pa_nil)) (pss_cons (ps_cut (ps_try_as (i := 6) rfl rfl sc__law_room_right.nd rfl rfl ⟨by rfl, by decide, .inl T.g_InvalidNumber⟩ takes0 (fun W pn xe tk po => (pss_cons (ps_set (i := 5) sc__law_room_right.nd rfl (by first | exact Or.inl rfl | exact Or.inr rfl) (pe_callS (ok_room_of T) (hr.mono (by decide)) (by rfl) T.g_room_of T.f_room_of.kp (b_room_of T) (fun σ => passAt tk σ) (pa_cons (pv 1) (pa_cons (pv 2) pa_nil)))) (pss_one (ps_if (PW.pt (pw_or (pt_cmpR op_ne (pv 5) (pe_callB call_lenR (by rfl) T.z_len PySem.boot_len (pa_cons (pe_callTy cr_rangeG (by rfl) T.z_range (by decide +kernel) (pa_cons (pv 2) (pa_cons (pv 1) pa_nil))) pa_nil)) (nomark _)) (pw_or1 (pt_cmpR op_ne (pe_callK0S (ok_room_of T) (hr.mono (by decide)) (by rfl) T.g_room_of T.f_room_of.kp (kb_room_of_0_height_lines T) (fun σ => passAt tk σ)  (pk_cons (pe_op op_add (pv 2) (pe_op op_powW pe_int pe_int)) (pk_cons (pe_op op_add (pv 1) (pe_op op_powW pe_int pe_int)) pk_nil))) (pv 5) (nomark _))))) (pss_one (ps_ret pe_bl)) pss_nil)))) (fun a oe cls d pn hz hf => (pss_one (ps_set (i := 4) sc__law_room_right.nd rfl (by first | exact Or.inl rfl | exact Or.inr rfl) (pe_lstG (pa_cons (pe_xf T.e_InvalidNumber.xf T.e_InvalidNumber.nov hz hf (pv 6)) pa_nil))))))) (pss_one (ps_ret (pe_and (pe_cmpR (op_eqD hr.units) (pv 4) (pv 3) (nomark _)) (pe_and (pe_cmpR op_eq (pe_call (ok_room_of T) (hr.mono (by decide)) (by rfl) T.g_room_of T.f_room_of.kp (b_room_of T) .nil passL (pa_cons (pe_op op_sub (pe_op op_powW pe_int pe_int) pe_int) (pa_cons pe_int pa_nil))) (pe_op op_sub (pe_op op_powW pe_int pe_int) pe_int) (nomark _)) (pe_one (pe_cmpR op_eq (pe_call (ok_room_of T) (hr.mono (by decide)) (by rfl) T.g_room_of T.f_room_of.kp (b_room_of T) .nil passL (pa_cons pe_int (pa_cons (pe_op op_sub (pe_op op_powW pe_int pe_int) pe_int) pa_nil))) pe_int (nomark _))))))))))), ?_⟩
    refine ⟨_, rfl, j, _, B, rfl, hj, by omega, by decide, by decide, fun n1 H1 a0 a1 e1 j1 => ?_⟩
    refine ⟨_, _, rfl, rfl, _, rfl, j, _, _, rfl, j1, by omega, by decide, by decide, fun n2 H2 b0 b1 e2 j2 => ?_⟩
    refine ⟨_, _, rfl, rfl, _, _, rfl, ?_⟩
    have j2' : Jug H2 j (B + 2) := j2.mono (by omega)
    refine ⟨fun v H' => ∃ p, v = .ref p ∧ Ex H2 H' ∧ H' p = some (.lst ((dueL (n1 - 1) (n2 - 1)).map V.int)), ?_, ?_⟩
    · refine ⟨_, rfl, _, _, rfl, rfl, _, rfl, ?_⟩
      refine ifB (fun c => ?_) (fun c => ?_)
      · refine ⟨_, rfl, (by show 1 ≤ sizeLine; decide), fun p3 H3 n3 e3 h3 => ⟨p3, rfl, e3, ?_⟩⟩
        unfold dueL
        rw [if_pos (of_decide_eq_true c)]
        exact h3
      · refine ⟨fun v H' => ∃ p, v = .ref p ∧ Ex H2 H' ∧ H' p = some (.lst ((dueL (n1 - 1) (n2 - 1)).map V.int)), ?_, fun _ _ z => z⟩
        refine ⟨_, rfl, _, _, rfl, rfl, _, rfl, ?_⟩
        refine ifB (fun c2 => ?_) (fun c2 => ?_)
        · refine ⟨_, rfl, (by show 1 ≤ sizeLine; decide), fun p3 H3 n3 e3 h3 => ⟨p3, rfl, e3, ?_⟩⟩
          unfold dueL
          rw [if_neg (of_decide_eq_false c), if_pos (of_decide_eq_true c2)]
          exact h3
        · refine ⟨(by show 0 ≤ sizeLine; decide), fun p3 H3 n3 e3 h3 => ⟨p3, rfl, e3, ?_⟩⟩
          unfold dueL
          rw [if_neg (of_decide_eq_false c), if_neg (of_decide_eq_false c2)]
          exact h3
    rintro v H3 ⟨pd, rfl, e3, h3⟩
    refine ⟨(by show 0 ≤ sizeLine; decide), fun p4 H4 n4 e4 h4 => ?_⟩
    have e34 : Ex H2 H4 := e3.trans e4
    refine ⟨fun σ' H' => ∃ q v5, σ' = [some (.ref j), some (.int (n1 - 1)), some (.int (n2 - 1)), some (.ref pd), some (.ref q), v5, none] ∧ Ex H4 H' ∧ H' q = some (.lst ((dueL (n1 - 1) (n2 - 1)).map V.int)), ?_, ?_⟩
    · refine ⟨_, rfl, _, rfl, (n1 - 1), (n2 - 1), rfl, fun c1 c2 => ?_, fun c1 => ?_, fun c1 c2 => ?_⟩
      · refine ⟨_, rfl, _, rfl, _, rfl, _, _, rfl, fun p5 H5 n5 e5 h5 => ?_⟩
        refine ⟨p5, (n2 - 1), (n1 - 1), rfl, h5, by omega, rfl, _, rfl, ?_⟩
        refine ifF ?_ ?_
        · have : mx 0 ((n1 - 1) - (n2 - 1)) = if (n2 - 1) < (n1 - 1) then (n1 - 1) - (n2 - 1) else 0 := by
            unfold mx
            split <;> split <;> omega
          rw [this, decide_eq_true rfl]
          rfl
        refine ⟨_, rfl, _, _, rfl, rfl, (show CPowW 10 29 by constructor <;> decide +kernel), _, _, rfl, rfl, _, rfl, _, _, rfl, rfl, (show CPowW 10 29 by constructor <;> decide +kernel), _, _, rfl, rfl, ?_⟩
        have z : (0 : Int) < 10 ^ (29 : Int).toNat := by decide +kernel
        generalize (10 : Int) ^ (29 : Int).toNat = G at z ⊢
        refine ⟨(n1 - 1) + G, (n2 - 1) + G, rfl, fun d1 d2 => ?_, fun d1 => absurd d1 (by omega), fun _ d2 => absurd d2 (by omega)⟩
        refine ⟨_, rfl, rfl, _, rfl, ?_⟩
        refine ifF ?_ ?_
        · have : (n1 - 1) + G - ((n2 - 1) + G) = (n1 - 1) - (n2 - 1) := by omega
          rw [this, decide_eq_true rfl]
          rfl
        refine ⟨p4, _, rfl, e5, ?_⟩
        unfold dueL
        rw [if_neg (by omega), if_neg (by omega)]
        exact e5 _ _ h4
      · exact fun d H' hd e hx => ⟨true, T.x_InvalidNumber_InvalidNumber, fun _ a ha => ⟨_, rfl, rfl, rfl, d, _, _, rfl, hx, rfl, (by show 1 ≤ sizeLine; decide), fun p6 H6 n6 e6 h6 => ⟨p6, _, rfl, e.trans e6, by unfold dueL; rw [if_pos c1]; exact h6⟩⟩, fun q => nomatch q⟩
      · exact fun d H' hd e hx => ⟨true, T.x_InvalidNumber_InvalidNumber, fun _ a ha => ⟨_, rfl, rfl, rfl, d, _, _, rfl, hx, rfl, (by show 1 ≤ sizeLine; decide), fun p6 H6 n6 e6 h6 => ⟨p6, _, rfl, e.trans e6, by unfold dueL; rw [if_neg (by omega), if_pos c2]; exact h6⟩⟩, fun q => nomatch q⟩
    · rintro σ' H' ⟨q, v5, rfl, e5, h5⟩
      refine ⟨_, rfl, _, rfl, eqI_ (sqI h5) (sqI (e5 _ _ (e4 _ _ h3))) ?_⟩
      rw [decide_eq_true rfl]
      refine ⟨_, rfl, ifT rfl ?_⟩
      have z : (1 : Int) < 10 ^ (30 : Int).toNat := by decide +kernel
      have bz : CPowW 10 30 := by constructor <;> decide +kernel
      refine ⟨_, _, rfl, rfl, bz, _, _, rfl, rfl, _, _, rfl, fun _ _ => ?_, fun d => absurd d ?_, fun _ d => absurd d (by decide)⟩
      · refine ⟨_, _, rfl, rfl, bz, _, _, rfl, rfl, rfl, _, rfl, ifT ?_ ?_⟩
        · decide +kernel
        · refine ⟨_, _, rfl, rfl, bz, _, _, rfl, rfl, _, _, rfl, fun _ _ => ?_, fun d => absurd d (by decide), fun _ d => absurd d ?_⟩
          · refine ⟨rfl, ?_⟩
            have e0 : (V.bl (decide (V.int (mx 0 (0 - (10 ^ (30 : Int).toNat - 1))) = V.int 0))) = V.bl true := by decide +kernel
            rw [e0]
            exact k _ (e1.trans (e2.trans (Exj.of (e34.trans e5)))) (j2'.ex (e34.trans e5))
          · omega
      · omega
end
end K34
set_option Elab.async false
set_option linter.all false
set_option maxRecDepth 100000
set_option maxHeartbeats 4000000
namespace K34
open PySem L2 My
/-- what is lost stays small -/
theorem lose_bd {R : Two} (r2 : R.1 ≤ 100) (r4 : R.2 ≤ 100) : ∀ (ts : List Int) (x : Two × Two) (c : Int), Ok R x.1 → (∀ t ∈ ts, -100 ≤ t ∧ t ≤ 100) → -c ≤ x.2.1 → x.2.1 ≤ c → -c ≤ x.2.2 → x.2.2 ≤ c →
    (-(c + 300 * ts.length) ≤ (ts.foldl (lstep R) x).2.1 ∧ (ts.foldl (lstep R) x).2.1 ≤ c + 300 * ts.length) ∧ (-(c + 300 * ts.length) ≤ (ts.foldl (lstep R) x).2.2 ∧ (ts.foldl (lstep R) x).2.2 ≤ c + 300 * ts.length)
  | [], x, c, _, _, h1, h2, h3, h4 => by
    show (-(c + 300 * 0) ≤ x.2.1 ∧ x.2.1 ≤ c + 300 * 0) ∧ (-(c + 300 * 0) ≤ x.2.2 ∧ x.2.2 ≤ c + 300 * 0)
    omega
  | t :: ts, x, c, ok, hb, h1, h2, h3, h4 => by
    have ht := hb t (List.mem_cons_self)
    have ok2 := aft_ok ok t
    have hs : -(c + 300) ≤ (lstep R x t).2.1 ∧ (lstep R x t).2.1 ≤ c + 300 ∧ -(c + 300) ≤ (lstep R x t).2.2 ∧ (lstep R x t).2.2 ≤ c + 300 := by
      obtain ⟨a1, a2, a3, a4⟩ := ok
      obtain ⟨b1, b2, b3, b4⟩ := ok2
      unfold lstep sm
      split
      · dsimp only
        omega
      · dsimp only
        omega
    have ih := lose_bd r2 r4 ts (lstep R x t) (c + 300) ok2 (fun t h => hb t (List.mem_cons_of_mem _ h)) hs.1 hs.2.1 hs.2.2.1 hs.2.2.2
    show (-(c + 300 * ((ts.length + 1 : Nat) : Int)) ≤ (ts.foldl (lstep R) (lstep R x t)).2.1 ∧ (ts.foldl (lstep R) (lstep R x t)).2.1 ≤ c + 300 * ((ts.length + 1 : Nat) : Int)) ∧ (-(c + 300 * ((ts.length + 1 : Nat) : Int)) ≤ (ts.foldl (lstep R) (lstep R x t)).2.2 ∧ (ts.foldl (lstep R) (lstep R x t)).2.2 ≤ c + 300 * ((ts.length + 1 : Nat) : Int))
    omega
theorem mul_ok {k : Int} (hk : 0 < k) {R S : Two} (h : Ok R S) : Ok (mul k R) (mul k S) := by
  obtain ⟨h1, h2, h3, h4⟩ := h
  exact ⟨Int.mul_nonneg (by omega) h1, Int.mul_le_mul_of_nonneg_left h2 (by omega), Int.mul_nonneg (by omega) h3, Int.mul_le_mul_of_nonneg_left h4 (by omega)⟩
def sp__law_right (K : PySem.W.Frag) : Sp := fun vs H Q _ => ∃ (a b c : Addr) (R S : Two) (ts : List Int) (wd : Int), vs = [.ref a, .ref b, .ref c, .int wd] ∧ SqT K H a (t2 R) ∧ SqT K H b (t2 S) ∧ SqL K H c (ts.map V.int) ∧ 0 < wd ∧ wd < 2 ^ 100 ∧ Ok R S ∧ R.1 ≤ 100 ∧ R.2 ≤ 100 ∧ (∀ t ∈ ts, -100 ≤ t ∧ t ≤ 100) ∧ ts.length ≤ 60 ∧ Evl.RetV (.bl true) H Q
section
variable {w : World} {K : PySem.W.Frag} {mg : Str → Option Value} {base : Heap}
theorem ok__law_right (T : Txt K mg) : FnOk PR w K mg base CX0 6 T.a__law_right T.d__law_right ["_law_rooms", "_law_scrolls", "_law_turns_here", "_law_width"] (sp__law_right K) := by
  refine T.f__law_right.ok sc__law_right (fun vs H Q E h => ?_) (fun cdv A outer s H vs Q E hr h => ?_)
  · obtain ⟨a, b, c, R, S, ts, wd, rfl, _⟩ := h
    rfl
  · obtain ⟨a, b, c, R, S, ts, wd, rfl, ha, hb, hc, w0, w1, ok, r1, r2, bd, hl, k⟩ := h
    refine ⟨_, (pss_cons (ps_set (i := 4) sc__law_right.nd rfl (by first | exact Or.inl rfl | exact Or.inr rfl) (pe_call (ok__law_ticks T) (hr.mono (by decide)) (by rfl) T.g__law_ticks T.f__law_ticks.kp (b__law_ticks T) .nil pass0 (pa_cons (pv 0) (pa_cons (pv 1) (pa_cons (pv 2) pa_nil))))) (pss_cons (ps_setLc (i := 5) (own := [("_law_turn", 9)]) (g := gName 9) (by rfl) sc__law_right.nd rfl rfl (sw_true rfl rfl rfl (by decide +kernel)) (pi_list (pv 2)) (blkOk_by (own := [("_law_turn", 9)]) (N := ["_law_rooms", "_law_scrolls", "_law_turns_here", "_law_width", "_law_due_here", "_law_great", "_law_told", "_law_wide", "_law_far", "_law_turn"]) (sc := defScope s__law_right) (by decide +kernel)) (fun _ _ _ _ _ => (pg_name (i := 9) sc__law_right.nd rfl (by first | exact Or.inl rfl | exact Or.inr rfl))) (fun _ _ _ _ _ => pts_nil) (fun _ _ _ _ _ => (pe_op op_mulW (pv 3) (pv 9)))) (pss_cons (ps_set (i := 6) sc__law_right.nd rfl (by first | exact Or.inl rfl | exact Or.inr rfl) (pe_call (ok_turned_by T) (hr.mono (by decide)) (by rfl) T.g_turned_by T.f_turned_by.kp (b_turned_by T) .nil passL (pa_cons (pe_tupG (pa_cons (pe_op op_mulW (pv 3) (pe_ix ix_tup (pv 0) pe_int (fun _ _ => rfl))) (pa_cons (pe_op op_mulW (pv 3) (pe_ix ix_tup (pv 0) pe_int (fun _ _ => rfl))) pa_nil))) (pa_cons (pe_tupG (pa_cons (pe_op op_mulW (pv 3) (pe_ix ix_tup (pv 1) pe_int (fun _ _ => rfl))) (pa_cons (pe_op op_mulW (pv 3) (pe_ix ix_tup (pv 1) pe_int (fun _ _ => rfl))) pa_nil))) (pa_cons (pv 5) pa_nil))))) (pss_cons (ps_if (PW.pt (pw_or (pt_cmpR (op_neD hr.units) (pv 6) (pe_tupG (pa_cons (pe_op op_mulW (pv 3) (pe_ix ix_tup (pe_ix ix_tup (pv 4) pe_int (fun _ _ => rfl)) pe_int (fun _ _ => rfl))) (pa_cons (pe_op op_mulW (pv 3) (pe_ix ix_tup (pe_ix ix_tup (pv 4) pe_int (fun _ _ => rfl)) pe_int (fun _ _ => rfl))) pa_nil))) (nomark _)) (pw_or1 (pt_not (pt_val (pe_callB call_isi (by rfl) T.z_isinstance (by decide +kernel) (pa_cons (pv 6) (pa_cons (pe_bltn (v := .ty "tuple") (by rfl) T.z_tuple (by decide +kernel) rfl) pa_nil)))))))) (pss_one (ps_ret pe_bl)) pss_nil) (pss_cons (ps_par (by rfl) sc__law_right.nd rfl rfl (by decide) rfl rfl (i := 7) (j := 8) (pa_cons (pe_tupG (pa_cons (pe_op op_mulW (pv 3) (pe_ix ix_tup (pv 0) pe_int (fun _ _ => rfl))) (pa_cons (pe_op op_mulW (pv 3) (pe_ix ix_tup (pv 0) pe_int (fun _ _ => rfl))) pa_nil))) (pa_cons (pe_tupG (pa_cons (pe_op op_mulW (pv 3) (pe_ix ix_tup (pv 1) pe_int (fun _ _ => rfl))) (pa_cons (pe_op op_mulW (pv 3) (pe_ix ix_tup (pv 1) pe_int (fun _ _ => rfl))) pa_nil))) pa_nil)) (by rfl)) (pss_cons (ps_set (i := 6) sc__law_right.nd rfl (by first | exact Or.inl rfl | exact Or.inr rfl) (pe_callK0 (ok_lost T) (hr.mono (by decide)) (by rfl) T.g_lost T.f_lost.kp (kb_lost_0_turns_rooms_scrolls T) passL (pk_cons (pv 5) (pk_cons (pv 7) (pk_cons (pv 8) pk_nil))))) (pss_cons (ps_if (PW.pt (pw_or (pt_cmpR (op_neD hr.units) (pv 6) (pe_tupG (pa_cons (pe_op op_mulW (pv 3) (pe_ix ix_tup (pe_ix ix_tup (pv 4) pe_int (fun _ _ => rfl)) pe_int (fun _ _ => rfl))) (pa_cons (pe_op op_mulW (pv 3) (pe_ix ix_tup (pe_ix ix_tup (pv 4) pe_int (fun _ _ => rfl)) pe_int (fun _ _ => rfl))) pa_nil))) (nomark _)) (pw_or1 (pt_cmpR (op_neD hr.units) (pv 5) (pe_lc (own := [("_law_turn", 9)]) (g := gName 9) (by rfl) sc__law_right.nd (pi_list (pv 2)) (blkOk_by (own := [("_law_turn", 9)]) (N := ["_law_rooms", "_law_scrolls", "_law_turns_here", "_law_width", "_law_due_here", "_law_great", "_law_told", "_law_wide", "_law_far", "_law_turn"]) (sc := defScope s__law_right) (by decide +kernel)) (fun _ _ _ _ _ => (pg_name (i := 9) sc__law_right.nd rfl (by first | exact Or.inl rfl | exact Or.inr rfl))) (fun _ _ _ _ _ => pts_nil) (fun _ _ _ _ _ => (pe_op op_mulW (pv 3) (pv 9)))) (nomark _))))) (pss_one (ps_ret pe_bl)) pss_nil) (pss_one (ps_ret (pe_and (pe_cmpR (op_eqD hr.units) (pe_callK0 (ok_turned_by T) (hr.mono (by decide)) (by rfl) T.g_turned_by T.f_turned_by.kp (kb_turned_by_0_turns_scrolls_rooms T) passL (pk_cons (pv 2) (pk_cons (pv 1) (pk_cons (pv 0) pk_nil)))) (pe_ix ix_tup (pv 4) pe_int (fun _ _ => rfl)) (nomark _)) (pe_one (pe_cmpR (op_eqD hr.units) (pe_call (ok_lost T) (hr.mono (by decide)) (by rfl) T.g_lost T.f_lost.kp (b_lost T) .nil passL (pa_cons (pv 0) (pa_cons (pv 1) (pa_cons (pv 2) pa_nil)))) (pe_ix ix_tup (pv 4) pe_int (fun _ _ => rfl)) (nomark _))))))))))))), ?_⟩
    have bm : wd.natAbs < 2 ^ 100 := by omega
    have ok' := ok
    obtain ⟨o1, o2, o3, o4⟩ := ok'
    have mR1 : 0 ≤ wd * R.1 := Int.mul_nonneg (by omega) (by omega)
    have mR2 : 0 ≤ wd * R.2 := Int.mul_nonneg (by omega) (by omega)
    have okm := mul_ok w0 ok
    -- _law_due_here
    refine ⟨_, rfl, _, rfl, _, rfl, a, b, c, R, S, ts, rfl, ha, hb, hc, ok, bd, fun p p1 p2 H1 n1 e1 h1 h2 h3 => ?_⟩
    -- _law_great
    have ha1 := Evl.ex_t e1 ha
    have hb1 := Evl.ex_t e1 hb
    have hc1 := Evl.ex_l e1 hc
    have hz : (ts.map V.int).length ≤ sizeLine := by
      rw [List.length_map]
      exact Nat.le_trans hl (by decide)
    refine ⟨_, rfl, c, rfl, ⟨_, hc1⟩, fun D hD => lc_mapL (xs := ts.map V.int) (ys := (ts.map (wd * ·)).map V.int) hc1 hD (by simp) hz (fun x => rfl) ?_ ?_⟩
    · intro i x y H2 e2 hx hy R' kR
      obtain ⟨t, ht, rfl⟩ := mapI_get hx
      obtain ⟨t', ht', rfl⟩ := mapI_get hy
      rw [List.getElem?_map, ht] at ht'
      have et : t' = wd * t := (Option.some.inj ht').symm
      subst et
      have hbd := bd t (List.mem_of_getElem? ht)
      exact ⟨_, rfl, _, rfl, _, _, rfl, rfl, wide_mul (b := 10) bm (by omega) (by decide) (by decide) (by decide), kR _ (Evl.Ex.refl _)⟩
    intro H2 e2 hD2
    -- _law_told = turned_by(..)
    have ha2 := Evl.ex_t e2 ha1
    have hb2 := Evl.ex_t e2 hb1
    refine ⟨_, rfl, _, rfl, _, _, _, _, rfl, rfl, ha2, at0, _, _, rfl, rfl, wide_mul (b := 10) bm (by omega) (by decide) (by decide) (by decide), _, rfl, _, rfl, _, _, _, _, rfl, rfl, ha2, at1, _, _, rfl, rfl, wide_mul (b := 10) bm (by omega) (by decide) (by decide) (by decide), (by show 2 ≤ sizeLine; decide), fun p3 H3 n3 e3 h3' => ?_⟩
    have hb3 := Evl.ex_t e3 hb2
    refine ⟨_, rfl, _, rfl, _, _, _, _, rfl, rfl, hb3, at0, _, _, rfl, rfl, wide_mul (b := 10) bm (by omega) (by decide) (by decide) (by decide), _, rfl, _, rfl, _, _, _, _, rfl, rfl, hb3, at1, _, _, rfl, rfl, wide_mul (b := 10) bm (by omega) (by decide) (by decide) (by decide), (by show 2 ≤ sizeLine; decide), fun p4 H4 n4 e4 h4 => ?_⟩
    refine ⟨_, rfl, p3, p4, D, mul wd R, mul wd S, ts.map (wd * ·), rfl, sqT (e4 _ _ h3'), sqT h4, sqI (e4 _ _ (e3 _ _ hD2)), fun _ _ _ p5 H5 n5 e5 h5 => ?_, fun q => absurd q (by show ¬ wd * R.1 < 0; omega), fun _ q => absurd q (by show ¬ wd * R.2 < 0; omega), fun _ _ q => absurd ⟨okm.1, okm.2.1⟩ q, fun _ _ _ _ q => absurd okm.2.2 q⟩
    have e15 : Ex H1 H5 := e2.trans (e3.trans (e4.trans e5))
    have d5 := e15 _ _ h1
    have d51 := e15 _ _ h2
    have d52 := e15 _ _ h3
    have aok := after_ok ts ok
    obtain ⟨a1, a2, a3, a4⟩ := aok
    -- if told != ..
    refine ⟨_, rfl, _, rfl, _, rfl, _, _, _, _, rfl, rfl, sqT d5, at0, _, _, _, _, rfl, rfl, sqT d51, at0, _, _, rfl, rfl, wide_mul (b := 10) bm (by omega) (by decide) (by decide) (by decide), _, rfl, _, rfl, _, _, _, _, rfl, rfl, sqT d5, at0, _, _, _, _, rfl, rfl, sqT d51, at1, _, _, rfl, rfl, wide_mul (b := 10) bm (by omega) (by decide) (by decide) (by decide), (by show 2 ≤ sizeLine; decide), fun p6 H6 n6 e6 h6 => ?_⟩
    refine ne2 (S' := mul wd (after R S ts)) (sqT (e6 _ _ h5)) (sqT h6) (after_mul w0 R ts S) ⟨_, rfl, ifF rfl ?_⟩
    refine ⟨_, rfl, _, _, _, _, _, rfl, .ty _, .base (.tup (e6 _ _ h5)), kit_ty (r := true) (by decide +kernel), _, rfl, ?_⟩
    refine ifF rfl ?_
    -- _law_wide, _law_far
    have e16 : Ex H1 H6 := e15.trans e6
    have ha6 := Evl.ex_t e16 ha1
    refine ⟨_, rfl, _, rfl, _, _, _, _, rfl, rfl, ha6, at0, _, _, rfl, rfl, wide_mul (b := 10) bm (by omega) (by decide) (by decide) (by decide), _, rfl, _, rfl, _, _, _, _, rfl, rfl, ha6, at1, _, _, rfl, rfl, wide_mul (b := 10) bm (by omega) (by decide) (by decide) (by decide), (by show 2 ≤ sizeLine; decide), fun p7 H7 n7 e7 h7 => ?_⟩
    have hb7 := Evl.ex_t (e16.trans e7) hb1
    refine ⟨_, rfl, _, rfl, _, _, _, _, rfl, rfl, hb7, at0, _, _, rfl, rfl, wide_mul (b := 10) bm (by omega) (by decide) (by decide) (by decide), _, rfl, _, rfl, _, _, _, _, rfl, rfl, hb7, at1, _, _, rfl, rfl, wide_mul (b := 10) bm (by omega) (by decide) (by decide) (by decide), (by show 2 ≤ sizeLine; decide), fun p8 H8 n8 e8 h8 => ?_⟩
    refine ⟨_, _, rfl, ?_⟩
    have e18 : Ex H1 H8 := e16.trans (e7.trans e8)
    have hD8 : H8 D = some (.lst ((ts.map (wd * ·)).map V.int)) := e8 _ _ (e7 _ _ (e6 _ _ (e5 _ _ (e4 _ _ (e3 _ _ hD2)))))
    -- lost(turns=..)
    refine ⟨_, rfl, _, rfl, _, rfl, p7, p8, D, mul wd R, mul wd S, ts.map (wd * ·), rfl, sqT (e8 _ _ h7), sqT h8, sqI hD8, fun _ _ _ p9 H9 n9 e9 h9 => ?_, fun q => absurd q (by show ¬ wd * R.1 < 0; omega), fun _ q => absurd q (by show ¬ wd * R.2 < 0; omega), fun _ _ q => absurd ⟨okm.1, okm.2.1⟩ q, fun _ _ _ _ q => absurd okm.2.2 q⟩
    have e19 : Ex H1 H9 := e18.trans e9
    have d9 := e19 _ _ h1
    have d91 := e19 _ _ h2
    have d92 := e19 _ _ h3
    have lb := lose_bd r1 r2 ts (S, (0, 0)) 0 ok bd (Int.le_refl 0) (Int.le_refl 0) (Int.le_refl 0) (Int.le_refl 0)
    have lb1 : (lose R S ts).2.1.natAbs < 2 ^ 20 := by
      unfold lose
      omega
    have lb2 : (lose R S ts).2.2.natAbs < 2 ^ 20 := by
      unfold lose
      omega
    refine ⟨_, rfl, _, rfl, _, rfl, _, _, _, _, rfl, rfl, sqT d9, at1, _, _, _, _, rfl, rfl, sqT d92, at0, _, _, rfl, rfl, wide_mul bm lb1 (by decide) (by decide) (by decide), _, rfl, _, rfl, _, _, _, _, rfl, rfl, sqT d9, at1, _, _, _, _, rfl, rfl, sqT d92, at1, _, _, rfl, rfl, wide_mul bm lb2 (by decide) (by decide) (by decide), (by show 2 ≤ sizeLine; decide), fun q1 G1 m1 f1 g1 => ?_⟩
    refine ne2 (S' := mul wd (lose R S ts).2) (sqT (f1 _ _ h9)) (sqT g1) (lose_mul w0 R S ts) ⟨_, rfl, ifF rfl ?_⟩
    have hc10 := Evl.ex_l (e19.trans f1) hc1
    refine ⟨_, rfl, _, rfl, c, rfl, ⟨_, hc10⟩, fun D' hD' => lc_mapL (xs := ts.map V.int) (ys := (ts.map (wd * ·)).map V.int) hc10 hD' (by simp) hz (fun x => rfl) ?_ ?_⟩
    · intro i x y H2 e2 hx hy R' kR
      obtain ⟨t, ht, rfl⟩ := mapI_get hx
      obtain ⟨t', ht', rfl⟩ := mapI_get hy
      rw [List.getElem?_map, ht] at ht'
      have et : t' = wd * t := (Option.some.inj ht').symm
      subst et
      have hbd := bd t (List.mem_of_getElem? ht)
      exact ⟨_, rfl, _, rfl, _, _, rfl, rfl, wide_mul (b := 10) bm (by omega) (by decide) (by decide) (by decide), kR _ (Evl.Ex.refl _)⟩
    intro G2 f2 g2
    refine neI_ (sqI (f2 _ _ (f1 _ _ (e9 _ _ hD8)))) (sqI g2) ?_
    rw [decide_eq_true rfl]
    refine ⟨_, rfl, ifF rfl ?_⟩
    have e1g : Ex H1 G2 := e19.trans (f1.trans f2)
    -- return
    refine ⟨_, rfl, _, rfl, _, rfl, a, b, c, R, S, ts, rfl, Evl.ex_t e1g ha1, Evl.ex_t e1g hb1, Evl.ex_l e1g hc1, fun _ _ _ q3 G3 m3 f3 g3 => ?_, fun q => absurd q (by omega), fun _ q => absurd q (by omega), fun _ _ q => absurd ⟨o1, o2⟩ q, fun _ _ _ _ q => absurd ⟨o3, o4⟩ q⟩
    refine ⟨_, rfl, _, _, _, _, rfl, rfl, sqT (f3 _ _ (e1g _ _ h1)), at0, eq2 (S := after R S ts) (sqT g3) (sqT (f3 _ _ (e1g _ _ h2))) rfl ⟨_, rfl, ifT rfl ?_⟩⟩
    have e3g := e1g.trans f3
    refine ⟨_, rfl, _, rfl, _, rfl, a, b, c, R, S, ts, rfl, Evl.ex_t e3g ha1, Evl.ex_t e3g hb1, Evl.ex_l e3g hc1, fun _ _ _ q4 G4 m4 f4 g4 => ?_, fun q => absurd q (by omega), fun _ q => absurd q (by omega), fun _ _ q => absurd ⟨o1, o2⟩ q, fun _ _ _ _ q => absurd ⟨o3, o4⟩ q⟩
    refine ⟨_, rfl, _, _, _, _, rfl, rfl, sqT (f4 _ _ (e3g _ _ h1)), at1, eq2 (S := (lose R S ts).2) (sqT g4) (sqT (f4 _ _ (e3g _ _ h3))) rfl ?_⟩
    exact k _ (e1.trans (e3g.trans f4))
end
end K34
set_option Elab.async false
set_option linter.all false
set_option maxRecDepth 100000
set_option maxHeartbeats 4000000
namespace K34
open PySem L2 My
abbrev G29 : Int := 10 ^ (29 : Int).toNat
theorem pick2 {m : Int} (h0 : 0 ≤ m) (h1 : m < 2) : ∃ c : Int, atI [V.int 10, V.int G29] m = some (V.int c) ∧ 0 < c ∧ c < 2 ^ 100 := by
  rcases (show m = 0 ∨ m = 1 by omega) with rfl | rfl
  · exact ⟨10, at0, by decide, by decide⟩
  · exact ⟨G29, at1, by decide +kernel, by decide +kernel⟩
def sp__law_great_right : Sp := fun vs H Q _ => ∃ (j : Addr) (B : Int), vs = [.ref j] ∧ Jug H j B ∧ B ≤ 2 ^ 50 ∧ ∀ H', Exj j H H' → Jug H' j (B + 100) → Q (.bl true) H'
section
variable {w : World} {K : PySem.W.Frag} {mg : Str → Option Value} {base : Heap}
theorem ok__law_great_right (T : Txt K mg) : FnOk PR w K mg base CX0 6 T.a__law_great_right T.d__law_great_right ["_law_jug_here"] sp__law_great_right := by
  refine T.f__law_great_right.ok sc__law_great_right (fun vs H Q E h => ?_) (fun cdv A outer s H vs Q E hr h => ?_)
  · obtain ⟨j, B, rfl, _⟩ := h
    rfl
  · obtain ⟨j, B, rfl, hj, hB, k⟩ := h
    refine ⟨_, (pss_cons (ps_set (i := 1) sc__law_great_right.nd rfl (by first | exact Or.inl rfl | exact Or.inr rfl) (pe_tupG (pa_cons (pe_call (ok__law_pour T) (hr.mono (by decide)) (by rfl) T.g__law_pour T.f__law_pour.kp (b__law_pour T) .nil pass0 (pa_cons (pv 0) (pa_cons (pe_op op_powW pe_int pe_int) pa_nil))) (pa_cons (pe_call (ok__law_pour T) (hr.mono (by decide)) (by rfl) T.g__law_pour T.f__law_pour.kp (b__law_pour T) .nil pass0 (pa_cons (pv 0) (pa_cons (pe_ix ix_list (pe_lstG (pa_cons pe_int (pa_cons (pe_op op_powW pe_int pe_int) pa_nil))) (pe_call (ok__law_pour T) (hr.mono (by decide)) (by rfl) T.g__law_pour T.f__law_pour.kp (b__law_pour T) .nil pass0 (pa_cons (pv 0) (pa_cons pe_int pa_nil))) (fun _ _ => rfl)) pa_nil))) pa_nil)))) (pss_cons (ps_set (i := 2) sc__law_great_right.nd rfl (by first | exact Or.inl rfl | exact Or.inr rfl) (pe_tupG (pa_cons (pe_call (ok__law_pour T) (hr.mono (by decide)) (by rfl) T.g__law_pour T.f__law_pour.kp (b__law_pour T) .nil pass0 (pa_cons (pv 0) (pa_cons (pe_op op_add (pe_ix ix_tup (pv 1) pe_int (fun _ _ => rfl)) pe_int) pa_nil))) (pa_cons (pe_call (ok__law_pour T) (hr.mono (by decide)) (by rfl) T.g__law_pour T.f__law_pour.kp (b__law_pour T) .nil pass0 (pa_cons (pv 0) (pa_cons (pe_op op_add (pe_ix ix_tup (pv 1) pe_int (fun _ _ => rfl)) pe_int) pa_nil))) pa_nil)))) (pss_cons (ps_par (by rfl) sc__law_great_right.nd rfl rfl (by decide) rfl rfl (i := 3) (j := 4) (pa_cons (pe_lstG pa_nil) (pa_cons (pe_lstG (pa_cons pe_int (pa_cons pe_int pa_nil))) pa_nil)) (by rfl)) (pss_cons (ps_asg (pv 2) (pg_tup rfl (pgs_cons (pg_name (i := 5) sc__law_great_right.nd rfl (by first | exact Or.inl rfl | exact Or.inr rfl)) (pgs_cons (pg_name (i := 6) sc__law_great_right.nd rfl (by first | exact Or.inl rfl | exact Or.inr rfl)) pgs_nil)))) (pss_cons (ps_for PassesOwn.never rfl (pi_range1 (by rfl) T.z_range (pa_cons (pe_call (ok__law_pour T) (hr.mono (by decide)) (by rfl) T.g__law_pour T.f__law_pour.kp (b__law_pour T) .nil pass0 (pa_cons (pv 0) (pa_cons pe_int pa_nil))) pa_nil)) (pg_name (i := 7) sc__law_great_right.nd rfl (by first | exact Or.inl rfl | exact Or.inr rfl)) (pss_cons (ps_set (i := 8) sc__law_great_right.nd rfl (by first | exact Or.inl rfl | exact Or.inr rfl) (pe_ix ix_list (pe_lstG (pa_cons pe_int (pa_cons (pe_op op_powW pe_int pe_int) pa_nil))) (pe_call (ok__law_pour T) (hr.mono (by decide)) (by rfl) T.g__law_pour T.f__law_pour.kp (b__law_pour T) .nil pass0 (pa_cons (pv 0) (pa_cons pe_int pa_nil))) (fun _ _ => rfl))) (pss_one (ps_expr (pe_bm PySem.F.plainAttrs_list PySem.F.slot_list_append PySem.F.type_list_append mt_append (pv 3) (pa_cons (pe_op op_sub (pe_call (ok__law_pour T) (hr.mono (by decide)) (by rfl) T.g__law_pour T.f__law_pour.kp (b__law_pour T) .nil pass0 (pa_cons (pv 0) (pa_cons (pe_op op_add (pe_op op_mulW pe_int (pv 8)) pe_int) pa_nil))) (pv 8)) pa_nil)))))) (pss_cons (ps_for PassesOwn.never rfl (pi_list (pv 3)) (pg_name (i := 7) sc__law_great_right.nd rfl (by first | exact Or.inl rfl | exact Or.inr rfl)) (pss_cons (ps_set (i := 9) sc__law_great_right.nd rfl (by first | exact Or.inl rfl | exact Or.inr rfl) (pe_ix ix_list (pe_callB cr_sortedG (by rfl) T.z_sorted (by decide +kernel) (pa_cons (pe_lstG (pa_cons (pe_op op_sub pe_int (pv 5)) (pa_cons (pv 7) (pa_cons (pe_op op_sub (pe_ix ix_tup (pv 1) pe_int (fun _ _ => rfl)) (pv 5)) pa_nil)))) pa_nil)) pe_int (fun _ _ => rfl))) (pss_cons (ps_set (i := 10) sc__law_great_right.nd rfl (by first | exact Or.inl rfl | exact Or.inr rfl) (pe_ix ix_list (pe_callB cr_sortedG (by rfl) T.z_sorted (by decide +kernel) (pa_cons (pe_lstG (pa_cons (pe_op op_sub pe_int (pv 6)) (pa_cons (pe_op op_sub (pv 7) (pv 9)) (pa_cons (pe_op op_sub (pe_ix ix_tup (pv 1) pe_int (fun _ _ => rfl)) (pv 6)) pa_nil)))) pa_nil)) pe_int (fun _ _ => rfl))) (pss_cons (ps_par (by rfl) sc__law_great_right.nd rfl rfl (by decide) rfl rfl (i := 5) (j := 6) (pa_cons (pe_op op_add (pv 5) (pv 9)) (pa_cons (pe_op op_add (pv 6) (pv 10)) pa_nil)) (by rfl)) (pss_one (ps_asg (pe_op op_add (pe_ix ix_list (pv 4) (pe_callTy call_int1 (by rfl) T.z_int (by decide +kernel) (pa_cons (pe_cmpR op_lt (pv 7) pe_int (nomark _)) pa_nil)) (fun _ _ => rfl)) (pe_callB call_abs (by rfl) T.z_abs (by decide +kernel) (pa_cons (pe_op op_sub (pe_op op_sub (pv 7) (pv 9)) (pv 10)) pa_nil))) (pg_sub (pv 4) (pe_callTy call_int1 (by rfl) T.z_int (by decide +kernel) (pa_cons (pe_cmpR op_lt (pv 7) pe_int (nomark _)) pa_nil)) set_list))))))) (pss_one (ps_ret (pe_and (pe_cmpR (op_eqD hr.units) (pe_call (ok_turned_by T) (hr.mono (by decide)) (by rfl) T.g_turned_by T.f_turned_by.kp (b_turned_by T) .nil passL (pa_cons (pv 1) (pa_cons (pv 2) (pa_cons (pv 3) pa_nil)))) (pe_tupG (pa_cons (pv 5) (pa_cons (pv 6) pa_nil))) (nomark _)) (pe_one (pe_cmpR (op_eqD hr.units) (pe_call (ok_lost T) (hr.mono (by decide)) (by rfl) T.g_lost T.f_lost.kp (b_lost T) .nil passL (pa_cons (pv 1) (pa_cons (pv 2) (pa_cons (pv 3) pa_nil)))) (pe_callTy call_tupleG (by rfl) T.z_tuple (by decide +kernel) (pa_cons (pv 4) pa_nil)) (nomark _)))))))))))), ?_⟩
    have bz : CPowW 10 29 := by constructor <;> decide +kernel
    have gz : (0 : Int) < 10 ^ (29 : Int).toNat := by decide +kernel
    have gz2 : (10 : Int) ^ (29 : Int).toNat < 2 ^ 100 := by decide +kernel
    -- _law_rooms
    refine ⟨_, rfl, _, _, rfl, rfl, bz, j, _, B, rfl, hj, by omega, gz, Int.lt_trans gz2 (by decide), fun x H1 x0 x1 e1 j1 => ?_⟩
    refine ⟨_, rfl, _, _, rfl, rfl, bz, (by show 2 ≤ sizeLine; decide), fun p1 H2 n2 e2 h2 => ?_⟩
    have np1 : p1 ≠ j := j1.ne n2
    refine ⟨_, rfl, j, _, _, rfl, j1.ex e2, by omega, by decide, by decide, fun m H3 m0 m1 e3 j3 => ?_⟩
    obtain ⟨c, hc, c0, c1⟩ := pick2 m0 m1
    refine ⟨_, _, _, _, rfl, rfl, sqI (e3 _ _ np1 h2), hc, j, _, _, rfl, j3, by omega, c0, by omega, fun y H4 y0 y1 e4 j4 => ?_⟩
    refine ⟨(by show 2 ≤ sizeLine; decide), fun pr H5 n5 e5 h5 => ?_⟩
    have npr : pr ≠ j := j4.ne n5
    have e05 : Exj j H H5 := e1.trans ((Exj.of e2).trans (e3.trans (e4.trans (Exj.of e5))))
    have x2 : x < 2 ^ 100 := Int.lt_trans x1 gz2
    -- _law_begin
    refine ⟨_, rfl, _, rfl, _, _, _, _, rfl, rfl, sqT h5, at0, _, _, rfl, rfl, j, _, _, rfl, j4.ex e5, by omega, by omega, by omega, fun s1 H6 s10 s11 e6 j6 => ?_⟩
    refine ⟨_, rfl, _, rfl, _, _, _, _, rfl, rfl, sqT (e6 _ _ npr h5), at1, _, _, rfl, rfl, j, _, _, rfl, j6, by omega, by omega, by omega, fun s2 H7 s20 s21 e7 j7 => ?_⟩
    refine ⟨(by show 2 ≤ sizeLine; decide), fun pb H8 n8 e8 h8 => ?_⟩
    have npb : pb ≠ j := j7.ne n8
    have hr8 := e8 _ _ (e7 _ _ npr (e6 _ _ npr h5))
    -- _law_turns_here, _law_lots
    refine ⟨(by show 0 ≤ sizeLine; decide), fun pt H9 n9 e9 h9 => ?_⟩
    refine ⟨(by show 2 ≤ sizeLine; decide), fun pl Ha na ea ha => ?_⟩
    refine ⟨_, _, rfl, ?_⟩
    have j8 := j7.ex e8
    have npt : pt ≠ j := j8.ne n9
    have npl : pl ≠ j := (j8.ex e9).ne na
    have tr : pt ≠ pr := (ne_of_none hr8 n9).symm
    have tb : pt ≠ pb := (ne_of_none h8 n9).symm
    have tl : pt ≠ pl := ne_of_none h9 na
    have lr : pl ≠ pr := (ne_of_none (e9 _ _ hr8) na).symm
    have lb : pl ≠ pb := (ne_of_none (e9 _ _ h8) na).symm
    have e08 : Exj j H H8 := e05.trans (e6.trans (e7.trans (Exj.of e8)))
    have e0a : Exj j H Ha := e08.trans (Exj.of (e9.trans ea))
    have ft : H pt = none := e08.back npt n9
    have fl : H pl = none := (e08.trans (Exj.of e9)).back npl na
    have ja : Jug Ha j (B + 5) := (j8.ex (e9.trans ea)).mono (by omega)
    have hra := ea _ _ (e9 _ _ hr8)
    have hba := ea _ _ (e9 _ _ h8)
    have hta := ea _ _ h9
    have ok : Ok (x, y) (s1, s2) := by
      unfold Ok
      dsimp only
      omega
    -- _law_window, _law_page = _law_begin
    refine ⟨_, rfl, _, _, rfl, sqT hba, rfl, _, _, rfl, _, _, rfl, rfl, ?_⟩
    -- the turns
    refine ⟨_, rfl, j, _, _, rfl, ja, by omega, by decide, by decide, fun n Hb n0 n1 eb jb => ?_⟩
    refine ⟨_, rfl, (by omega), (by omega), for_range (lo := 0) (n := n.toNat) (fun i σ H' => ∃ (ts : List Int) (v1 v2 : Option V), σ = [some (.ref j), some (.ref pr), some (.ref pb), some (.ref pt), some (.ref pl), some (.int s1), some (.int s2), v1, v2, none, none] ∧
      Jug H' j (B + 6 + 2 * i) ∧ H' pr = some (.tup (t2 (x, y))) ∧ H' pb = some (.tup (t2 (s1, s2))) ∧ H' pl = some (.lst (t2 (0, 0))) ∧ H' pt = some (.lst (ts.map V.int)) ∧ ts.length = i ∧ Exj j H H')
      ⟨[], _, _, rfl, jb.mono (by omega), eb _ _ npr hra, eb _ _ npb hba, eb _ _ npl ha, eb _ _ npt hta, rfl, e0a.trans eb⟩ ?_ ?_⟩
    · rintro i σ H' hi ⟨ts, v1, v2, rfl, j', hr', hb', hl', ht', len, e'⟩
      refine ⟨_, _, rfl, rfl, bz, (by show 2 ≤ sizeLine; decide), fun q1 G1 m1' f1 g1 => ?_⟩
      have nq1 : q1 ≠ j := j'.ne m1'
      refine ⟨_, rfl, j, _, _, rfl, j'.ex f1, by omega, by decide, by decide, fun m G2 m0 m1 f2 j2 => ?_⟩
      obtain ⟨c, hc, c0, c1⟩ := pick2 m0 m1
      refine ⟨_, _, _, _, rfl, rfl, sqI (f2 _ _ nq1 g1), hc, ?_⟩
      have ht2 := f2 _ _ npt (f1 _ _ ht')
      refine ⟨_, rfl, .inl ⟨rfl, _, sqI ht2⟩, _, rfl, _, rfl, _, _, rfl, rfl, wide_mul (a := 10) (b := 100) (by decide) (by omega) (by decide) (by decide) (by decide), _, _, rfl, rfl, j, _, _, rfl, j2, by omega, by omega, by omega, fun z G3 z0 z1 f3 j3 => ?_⟩
      have ht3 := f3 _ _ npt ht2
      refine ⟨_, rfl, _, _, rfl, rfl, _, _, _, rfl, rfl, ht3, ?_, ?_⟩
      · rw [List.length_map, len]
        exact Nat.lt_of_lt_of_le (show i < 9 by omega) (by decide)
      · have e3 : Exj j H' G3 := (Exj.of f1).trans (f2.trans f3)
        have upn : ∀ {b : Addr} {o : HO}, pt ≠ b → b ≠ j → H' b = some o → upd G3 pt (.lst (ts.map V.int ++ [.int (z - c)])) b = some o := fun n1 n2 h => by
          rw [upd_ne n1.symm]
          exact e3 _ _ n2 h
        refine ⟨ts ++ [z - c], _, _, rfl, ?_, upn tr npr hr', upn tb npb hb', upn tl npl hl', ?_, by rw [List.length_append, len]; rfl, ?_⟩
        · obtain ⟨a1, a2, a3, h, r1, r2, r3, r4⟩ := j3
          exact ⟨a1, a2, a3, by rw [upd_ne npt.symm]; exact h, r1, r2, r3, by omega⟩
        · rw [upd_same, List.map_append]
          rfl
        · intro b o nb hb
          rw [upd_ne (ne_of_none hb ft)]
          exact e3 _ _ nb (e' _ _ nb hb)
    rintro σ Hc ⟨ts, v1, v2, rfl, jc, hrc, hbc, hlc, htc, len, ec⟩
    -- the turns one by one
    refine ⟨_, rfl, pt, rfl, ⟨_, sqI htc⟩, for_list (K := K) (a := pt) (xs := ts.map V.int) (fun i σ H' => ∃ (z : Two × Two) (v1 v2 v3 v4 : Option V), σ = [some (.ref j), some (.ref pr), some (.ref pb), some (.ref pt), some (.ref pl), some (.int z.1.1), some (.int z.1.2), v1, v2, v3, v4] ∧
      z = lose (x, y) (s1, s2) (ts.take i) ∧ H' pl = some (.lst (t2 z.2)) ∧ Exj pl Hc H')
      ⟨((s1, s2), (0, 0)), _, _, _, _, rfl, rfl, hlc, Exj.refl _ _⟩ (fun i σ H' _ ⟨_, _, _, _, _, _, _, _, e⟩ => e.sq tl (sqI htc)) ?_ ?_⟩
    · rintro i v σ H' hi ⟨z, v1, v2, v3, v4, rfl, ez, hl', e'⟩
      obtain ⟨t, ht, rfl⟩ := mapI_get hi
      have okz : Ok (x, y) z.1 := by
        rw [ez]
        exact lose_ok ok _
      have okz' := okz
      obtain ⟨o1, o2, o3, o4⟩ := okz'
      have hr' := e' _ _ lr.symm hrc
      -- own
      refine ⟨_, rfl, _, _, rfl, rfl, _, rfl, _, rfl, _, _, _, _, rfl, rfl, sqT hr', at0, _, rfl, _, _, rfl, rfl, (by show 3 ≤ sizeLine; decide), fun q1 G1 m1 f1 g1 => ?_⟩
      refine ⟨q1, [0 - z.1.1, t, x - z.1.1], rfl, sqI g1, fun ns' pe so q2 G2 m2 f2 g2 => ?_⟩
      obtain ⟨u1, u2, en⟩ := mid_of pe so (by dsimp only at o2; omega)
      subst en
      refine ⟨_, _, _, _, rfl, rfl, sqI g2, at1, ?_⟩
      generalize eo : mid (0 - z.1.1) t (x - z.1.1) = own at g2
      -- more
      refine ⟨_, rfl, _, _, rfl, rfl, _, rfl, _, rfl, _, _, rfl, rfl, _, rfl, _, _, _, _, rfl, rfl, sqT (f2 _ _ (f1 _ _ hr')), at1, _, rfl, _, _, rfl, rfl, (by show 3 ≤ sizeLine; decide), fun q3 G3 m3 f3 g3 => ?_⟩
      refine ⟨q3, [0 - z.1.2, t - own, y - z.1.2], rfl, sqI g3, fun ns' pe so q4 G4 m4 f4 g4 => ?_⟩
      obtain ⟨u3, u4, en⟩ := mid_of pe so (by dsimp only at o4; omega)
      subst en
      refine ⟨_, _, _, _, rfl, rfl, sqI g4, at1, ?_⟩
      generalize em : mid (0 - z.1.2) (t - own) (y - z.1.2) = more at g4
      have st := lstep_mid okz t eo.symm em.symm
      refine ⟨_, rfl, _, rfl, _, _, rfl, rfl, _, rfl, _, rfl, _, _, rfl, rfl, _, _, rfl, ?_⟩
      have f14 : Ex H' G4 := f1.trans (f2.trans (f3.trans f4))
      have hl4 := f14 _ _ hl'
      have hat : atI (t2 z.2) (if decide (t < 0) = true then 1 else 0) = some (.int (if decide (t < 0) = true then z.2.2 else z.2.1)) := by
        cases decide (t < 0) with
        | true => exact at1
        | false => exact at0
      have hix : ixN (t2 z.2).length (if decide (t < 0) = true then 1 else 0) = some (if decide (t < 0) = true then 1 else 0) := by
        cases decide (t < 0) with
        | true => rfl
        | false => rfl
      refine ⟨_, rfl, _, rfl, _, _, rfl, rfl, .inr ⟨_, rfl, ?_⟩⟩
      refine ⟨_, _, _, _, rfl, rfl, sqI hl4, hat, _, rfl, _, rfl, _, _, rfl, rfl, _, rfl, _, _, rfl, rfl, _, rfl, _, _, rfl, rfl, _, rfl, _, rfl, _, _, rfl, rfl, .inr ⟨_, rfl, ?_⟩⟩
      refine ⟨_, _, _, _, rfl, rfl, hl4, hix, ?_⟩
      refine ⟨lstep (x, y) z t, some (.int t), v2, some (.int own), some (.int more), ?_, ?_, ?_, ?_⟩
      · rw [st]
        rfl
      · rw [take_next ht, lose_app, ← ez]
      · rw [upd_same, st]
        by_cases c : t < 0
        · rw [decide_eq_true c, if_pos c]
          rfl
        · rw [decide_eq_false c, if_neg c]
          rfl
      · exact (e'.trans (Exj.of f14)).upd
    rintro σ Hd ⟨z, v1, v2, v3, v4, rfl, ez, hl', e'⟩
    rw [List.length_map, List.take_of_length_le (Nat.le_refl _)] at ez
    have hrd := e' _ _ lr.symm hrc
    have hbd := e' _ _ lb.symm hbc
    have htd := e' _ _ tl htc
    have okd := ok
    obtain ⟨o1, o2, o3, o4⟩ := okd
    refine ⟨_, rfl, _, rfl, _, rfl, pr, pb, pt, (x, y), (s1, s2), ts, rfl, sqT hrd, sqT hbd, sqI htd, fun _ _ _ q1 G1 m1 f1 g1 => ?_, fun q => absurd q (by show ¬ x < 0; omega), fun _ q => absurd q (by show ¬ y < 0; omega), fun _ _ q => absurd ⟨o1, o2⟩ q, fun _ _ _ _ q => absurd ⟨o3, o4⟩ q⟩
    refine ⟨_, rfl, _, rfl, (by show 2 ≤ sizeLine; decide), fun q2 G2 m2 f2 g2 => ?_⟩
    refine eq2 (S' := z.1) (sqT (f2 _ _ g1)) (sqT g2) (by rw [ez, lose_here]) ⟨_, rfl, ifT rfl ?_⟩
    have f12 := f1.trans f2
    refine ⟨_, rfl, _, rfl, _, rfl, pr, pb, pt, (x, y), (s1, s2), ts, rfl, sqT (f12 _ _ hrd), sqT (f12 _ _ hbd), sqI (f12 _ _ htd), fun _ _ _ q3 G3 m3 f3 g3 => ?_, fun q => absurd q (by show ¬ x < 0; omega), fun _ q => absurd q (by show ¬ y < 0; omega), fun _ _ q => absurd ⟨o1, o2⟩ q, fun _ _ _ _ q => absurd ⟨o3, o4⟩ q⟩
    refine ⟨_, rfl, pl, _, rfl, sqI (f3 _ _ (f12 _ _ hl')), fun q4 G4 m4 f4 g4 => ?_⟩
    refine eq2 (S' := z.2) (sqT (f4 _ _ g3)) (sqT g4) (by rw [ez]) ?_
    have fin : Ex Hd G4 := f12.trans (f3.trans f4)
    refine k G4 (fun b o nb hb => ?_) ?_
    · exact fin _ _ (e' _ _ (ne_of_none hb fl) (ec _ _ nb hb))
    · have jd : Jug Hd j (B + 100) := by
        obtain ⟨a1, a2, a3, h, r1, r2, r3, r4⟩ := jc
        exact ⟨a1, a2, a3, e' _ _ npl.symm h, r1, r2, r3, by omega⟩
      exact jd.ex fin
end
end K34
set_option Elab.async false
set_option linter.all false
set_option maxRecDepth 100000
set_option maxHeartbeats 4000000
namespace K34
open PySem L2 My
def sp_law (K : PySem.W.Frag) : Sp := fun vs H Q _ => ∃ (a : Addr) (ns : List Int), vs = [.ref a] ∧ SqL K H a (ns.map V.int) ∧ ns.length ≤ 63 ∧ ∀ H', Q (.bl true) H'
theorem exj_ex {H H1 H2 : Hp} {j : Addr} (e : Ex H H1) (n : H j = none) (x : Exj j H1 H2) : Ex H H2 := fun b o h => x b o (ne_of_none h n) (e b o h)
theorem pick3 {x y z : Int} {n : Int} (h0 : 0 ≤ n) (h1 : n < 3) : ∃ v, atI [V.int x, V.int y, V.int z] n = some (V.int v) ∧ (v = x ∨ v = y ∨ v = z) := by
  have : n = 0 ∨ n = 1 ∨ n = 2 := by omega
  rcases this with rfl | rfl | rfl
  · exact ⟨x, at0, .inl rfl⟩
  · exact ⟨y, at1, .inr (.inl rfl)⟩
  · exact ⟨z, at2, .inr (.inr rfl)⟩
section
variable {w : World} {K : PySem.W.Frag} {mg : Str → Option Value} {base : Heap}
theorem ok_law (T : Txt K mg) : FnOk PR w K mg base CX0 7 T.a_law T.d_law ["_law_script"] (sp_law K) := by
  refine T.f_law.ok sc_law (fun vs H Q E h => ?_) (fun cdv A outer s H vs Q E hr h => ?_)
  · obtain ⟨a, ns, rfl, _⟩ := h
    rfl
  · obtain ⟨a, ns, rfl, hs, hl, k⟩ := h
    refine ⟨_, (pss_cons (ps_for PassesOwn.never rfl (pi_range1 (by rfl) T.z_range (pa_cons (pe_callB (call_max2 rfl) (by rfl) T.z_max (by decide +kernel) (pa_cons pe_int (pa_cons (pe_callB (call_min2 rfl) (by rfl) T.z_min (by decide +kernel) (pa_cons pe_int (pa_cons (pe_callB call_len_seq (by rfl) T.z_len PySem.boot_len (pa_cons (pv 0) pa_nil)) pa_nil))) pa_nil))) pa_nil)) (pg_name (i := 1) sc_law.nd rfl (by first | exact Or.inl rfl | exact Or.inr rfl)) (pss_cons (ps_set (i := 2) sc_law.nd rfl (by first | exact Or.inl rfl | exact Or.inr rfl) (pe_call (ok__law_jug T) (hr.mono (by decide)) (by rfl) T.g__law_jug T.f__law_jug.kp (b__law_jug T) .nil pass0 (pa_cons (pv 0) (pa_cons (pv 1) pa_nil)))) (pss_cons (ps_set (i := 3) sc_law.nd rfl (by first | exact Or.inl rfl | exact Or.inr rfl) (pe_ix ix_list (pe_lstG (pa_cons pe_int (pa_cons (pe_op op_add pe_int (pe_call (ok__law_pour T) (hr.mono (by decide)) (by rfl) T.g__law_pour T.f__law_pour.kp (b__law_pour T) .nil pass0 (pa_cons (pv 2) (pa_cons pe_int pa_nil)))) (pa_cons (pe_op op_add pe_int (pe_call (ok__law_pour T) (hr.mono (by decide)) (by rfl) T.g__law_pour T.f__law_pour.kp (b__law_pour T) .nil pass0 (pa_cons (pv 2) (pa_cons (pe_op op_powW pe_int pe_int) pa_nil)))) pa_nil)))) (pe_call (ok__law_pour T) (hr.mono (by decide)) (by rfl) T.g__law_pour T.f__law_pour.kp (b__law_pour T) .nil pass0 (pa_cons (pv 2) (pa_cons pe_int pa_nil))) (fun _ _ => rfl))) (pss_cons (ps_set (i := 4) sc_law.nd rfl (by first | exact Or.inl rfl | exact Or.inr rfl) (pe_tupG (pa_cons (pe_call (ok__law_pour T) (hr.mono (by decide)) (by rfl) T.g__law_pour T.f__law_pour.kp (b__law_pour T) .nil pass0 (pa_cons (pv 2) (pa_cons pe_int pa_nil))) (pa_cons (pe_call (ok__law_pour T) (hr.mono (by decide)) (by rfl) T.g__law_pour T.f__law_pour.kp (b__law_pour T) .nil pass0 (pa_cons (pv 2) (pa_cons pe_int pa_nil))) pa_nil)))) (pss_cons (ps_set (i := 5) sc_law.nd rfl (by first | exact Or.inl rfl | exact Or.inr rfl) (pe_tupG (pa_cons (pe_call (ok__law_pour T) (hr.mono (by decide)) (by rfl) T.g__law_pour T.f__law_pour.kp (b__law_pour T) .nil pass0 (pa_cons (pv 2) (pa_cons (pe_op op_add (pe_ix ix_tup (pv 4) pe_int (fun _ _ => rfl)) pe_int) pa_nil))) (pa_cons (pe_call (ok__law_pour T) (hr.mono (by decide)) (by rfl) T.g__law_pour T.f__law_pour.kp (b__law_pour T) .nil pass0 (pa_cons (pv 2) (pa_cons (pe_op op_add (pe_ix ix_tup (pv 4) pe_int (fun _ _ => rfl)) pe_int) pa_nil))) pa_nil)))) (pss_cons (ps_set (i := 6) sc_law.nd rfl (by first | exact Or.inl rfl | exact Or.inr rfl) (pe_call (ok__law_turns T) (hr.mono (by decide)) (by rfl) T.g__law_turns T.f__law_turns.kp (b__law_turns T) .nil pass0 (pa_cons (pv 2) (pa_cons pe_int (pa_cons pe_int pa_nil))))) (pss_cons (ps_set (i := 7) sc_law.nd rfl (by first | exact Or.inl rfl | exact Or.inr rfl) (pe_tupG (pa_cons (pe_op op_sub (pe_ix ix_tup (pv 4) pe_int (fun _ _ => rfl)) (pe_op op_mulW pe_int (pe_callTy call_int1 (by rfl) T.z_int (by decide +kernel) (pa_cons (pe_cmpR op_eq (pe_call (ok__law_pour T) (hr.mono (by decide)) (by rfl) T.g__law_pour T.f__law_pour.kp (b__law_pour T) .nil pass0 (pa_cons (pv 2) (pa_cons pe_int pa_nil))) pe_int (nomark _)) pa_nil)))) (pa_cons (pe_op op_sub (pe_ix ix_tup (pv 4) pe_int (fun _ _ => rfl)) (pe_op op_mulW pe_int (pe_callTy call_int1 (by rfl) T.z_int (by decide +kernel) (pa_cons (pe_cmpR op_eq (pe_call (ok__law_pour T) (hr.mono (by decide)) (by rfl) T.g__law_pour T.f__law_pour.kp (b__law_pour T) .nil pass0 (pa_cons (pv 2) (pa_cons pe_int pa_nil))) pe_int (nomark _)) pa_nil)))) pa_nil)))) (pss_cons (ps_set (i := 8) sc_law.nd rfl (by first | exact Or.inl rfl | exact Or.inr rfl) (pe_tupG (pa_cons (pe_op op_sub (pe_call (ok__law_pour T) (hr.mono (by decide)) (by rfl) T.g__law_pour T.f__law_pour.kp (b__law_pour T) .nil pass0 (pa_cons (pv 2) (pa_cons (pe_op op_add (pe_ix ix_tup (pv 4) pe_int (fun _ _ => rfl)) pe_int) pa_nil))) pe_int) (pa_cons (pe_op op_sub (pe_call (ok__law_pour T) (hr.mono (by decide)) (by rfl) T.g__law_pour T.f__law_pour.kp (b__law_pour T) .nil pass0 (pa_cons (pv 2) (pa_cons (pe_op op_add (pe_ix ix_tup (pv 4) pe_int (fun _ _ => rfl)) pe_int) pa_nil))) pe_int) pa_nil)))) (pss_cons (ps_for PassesOwn.never rfl (pi_range1 (by rfl) T.z_range (pa_cons pe_int pa_nil)) (pg_name (i := 9) sc_law.nd rfl (by first | exact Or.inl rfl | exact Or.inr rfl)) (pss_cons (ps_set (i := 10) sc_law.nd rfl (by first | exact Or.inl rfl | exact Or.inr rfl) (pe_call (ok__law_due T) (hr.mono (by decide)) (by rfl) T.g__law_due T.f__law_due.kp (b__law_due T) .nil pass0 (pa_cons (pv 7) (pa_cons (pe_ix ix_list (pe_lstG (pa_cons (pv 8) (pa_cons (pv 8) (pa_cons (pe_tupG (pa_cons pe_int (pa_cons pe_int pa_nil))) pa_nil)))) (pv 9) (fun _ _ => rfl)) pa_nil)))) (pss_one (ps_if (pt_cmpR op_ne (pe_call (ok__law_refused T) (hr.mono (by decide)) (by rfl) T.g__law_refused T.f__law_refused.kp (b__law_refused T) .nil pass0 (pa_cons (pv 9) (pa_cons (pv 7) (pa_cons (pv 8) (pa_cons (pv 6) pa_nil))))) (pv 10) (nomark _)) (pss_one (ps_ret pe_bl)) pss_nil)))) (pss_cons (ps_if (PW.pt (pw_or (pt_not (pt_val (pe_call (ok__law_right T) (hr.mono (by decide)) (by rfl) T.g__law_right T.f__law_right.kp (b__law_right T) .nil pass0 (pa_cons (pv 4) (pa_cons (pv 5) (pa_cons (pv 6) (pa_cons (pv 3) pa_nil))))))) (pw_or1 (pt_not (pt_val (pe_call (ok__law_clipped_right T) (hr.mono (by decide)) (by rfl) T.g__law_clipped_right T.f__law_clipped_right.kp (b__law_clipped_right T) .nil pass0 (pa_cons (pv 4) (pa_cons (pv 8) (pa_cons (pv 3) pa_nil))))))))) (pss_one (ps_ret pe_bl)) pss_nil) (pss_one (ps_if (PW.pt (pw_or (pt_not (pt_val (pe_call (ok__law_room_right T) (hr.mono (by decide)) (by rfl) T.g__law_room_right T.f__law_room_right.kp (b__law_room_right T) .nil pass0 (pa_cons (pv 2) pa_nil)))) (pw_or1 (pt_not (pt_val (pe_call (ok__law_great_right T) (hr.mono (by decide)) (by rfl) T.g__law_great_right T.f__law_great_right.kp (b__law_great_right T) .nil pass0 (pa_cons (pv 2) pa_nil))))))) (pss_one (ps_ret pe_bl)) pss_nil)))))))))))) (pss_one (ps_ret pe_bl))), ?_⟩
    refine ⟨_, rfl, _, _, rfl, .inl hs, _, _, rfl, _, _, rfl, ?_⟩
    -- how many cells
    have hN : ∃ N : Int, (if (if ((ns.map V.int).length : Int) < 4 then ((ns.map V.int).length : Int) else 4) > 1 then (if ((ns.map V.int).length : Int) < 4 then ((ns.map V.int).length : Int) else 4) else 1) = N ∧ 1 ≤ N ∧ N ≤ 4 := ⟨_, rfl, by split <;> omega, by split <;> split <;> omega⟩
    obtain ⟨N, eN, N1, N3⟩ := hN
    rw [eN]
    refine ⟨_, rfl, (by omega), (by omega), for_range (lo := 0) (n := N.toNat) (fun i σ H' => ∃ v1 v2 v3 v4 v5 v6 v7 v8 v9 v10, σ = [some (.ref a), v1, v2, v3, v4, v5, v6, v7, v8, v9, v10] ∧ Ex H H') ⟨_, _, _, _, _, _, _, _, _, _, rfl, Evl.Ex.refl _⟩ ?_ ?_⟩
    · rintro i σ H0 hi ⟨v1, v2, v3, v4, v5, v6, v7, v8, v9, v10, rfl, e0⟩
      -- _law_jug_here = _law_jug(_law_script, _law_k)
      refine ⟨_, rfl, _, rfl, a, ns, _, rfl, Evl.ex_l e0 hs, by omega, by omega, fun j H1 nj e1 j1 => ?_⟩
      have njH : H j = none := Evl.fresh_back e0 nj
      -- _law_width
      refine ⟨_, rfl, j, _, _, rfl, j1, by decide, by decide, by decide, fun d1 H2 d10 d11 x2 j2 => ?_⟩
      refine ⟨_, _, rfl, rfl, _, rfl, _, _, rfl, rfl, (show CPowW 10 28 by constructor <;> decide +kernel), j, _, _, rfl, j2, by decide, by decide +kernel, by decide +kernel, fun d2 H3 d20 d21 x3 j3 => ?_⟩
      have d22 : d2 < 2 ^ 99 := Int.lt_trans d21 (by decide +kernel)
      refine ⟨_, _, rfl, rfl, (by show 3 ≤ sizeLine; decide), fun p4 H4 n4 e4 h4 => ?_⟩
      refine ⟨_, rfl, j, _, _, rfl, j3.ex e4, by decide, by decide, by decide, fun d3 H5 d30 d31 x5 j5 => ?_⟩
      have n4j : p4 ≠ j := j3.ne n4
      obtain ⟨wd, hwd, ewd⟩ := pick3 (x := 1) (y := 2 + d1) (z := 1 + d2) d30 d31
      refine ⟨_, _, _, _, rfl, rfl, sqI (x5 _ _ n4j h4), hwd, ?_⟩
      have wd0 : 0 < wd := by omega
      have wd1 : wd < 2 ^ 100 := by omega
      have x15 : Exj j H1 H5 := x2.trans (x3.trans ((Exj.of e4).trans x5))
      -- _law_rooms
      refine ⟨_, rfl, j, _, _, rfl, j5, by decide, by decide, by decide, fun r1 H6 r10 r11 x6 j6 => ?_⟩
      refine ⟨_, rfl, j, _, _, rfl, j6, by decide, by decide, by decide, fun r2 H7 r20 r21 x7 j7 => ?_⟩
      refine ⟨(by show 2 ≤ sizeLine; decide), fun pr H8 n8 e8 h8 => ?_⟩
      have prj : pr ≠ j := j7.ne n8
      -- _law_scrolls
      refine ⟨_, rfl, _, rfl, _, _, _, _, rfl, rfl, sqT h8, at0, _, _, rfl, rfl, j, _, _, rfl, j7.ex e8, by decide, by omega, by omega, fun s1 H9 s10 s11 x9 j9 => ?_⟩
      refine ⟨_, rfl, _, rfl, _, _, _, _, rfl, rfl, sqT (x9 _ _ prj h8), at1, _, _, rfl, rfl, j, _, _, rfl, j9, by decide, by omega, by omega, fun s2 Ha s20 s21 xa ja => ?_⟩
      refine ⟨(by show 2 ≤ sizeLine; decide), fun ps Hb nb eb hb => ?_⟩
      have psj : ps ≠ j := ja.ne nb
      -- _law_turns_here
      refine ⟨_, rfl, j, 8, 6, _, rfl, ja.ex eb, by decide, by decide, by decide, by decide, by decide, fun pt Hc ts nc xc jc hc lc bc => ?_⟩
      have ptj : pt ≠ j := (ja.ex eb).ne nc
      have hrc := xc _ _ prj (eb _ _ (xa _ _ prj (x9 _ _ prj h8)))
      have hsc := xc _ _ psj hb
      have x1c : Exj j H1 Hc := x15.trans (x6.trans (x7.trans ((Exj.of e8).trans (x9.trans (xa.trans ((Exj.of eb).trans xc))))))
      -- _law_odd
      refine ⟨_, rfl, _, _, _, _, rfl, rfl, sqT hrc, at0, _, rfl, j, _, _, rfl, jc, by decide, by decide, by decide, fun o1 Hd o10 o11 xd jd => ?_⟩
      refine ⟨rfl, .inr ⟨_, rfl, ?_⟩⟩
      refine ⟨_, _, rfl, rfl, wide_mul (a := 10) (b := 10) (by decide) (by split <;> decide) (by decide) (by decide) (by decide), _, _, rfl, rfl, _, rfl, _, _, _, _, rfl, rfl, sqT (xd _ _ prj hrc), at1, _, rfl, j, _, _, rfl, jd, by decide, by decide, by decide, fun o2 He o20 o21 xe je => ?_⟩
      refine ⟨rfl, .inr ⟨_, rfl, ?_⟩⟩
      refine ⟨_, _, rfl, rfl, wide_mul (a := 10) (b := 10) (by decide) (by split <;> decide) (by decide) (by decide) (by decide), _, _, rfl, rfl, (by show 2 ≤ sizeLine; decide), fun po Hf nf ef hf => ?_⟩
      have poj : po ≠ j := je.ne nf
      obtain ⟨O, hO⟩ : ∃ O : Two, Hf po = some (.tup (t2 O)) := ⟨(_, _), hf⟩
      have hrf := ef _ _ (xe _ _ prj (xd _ _ prj hrc))
      -- _law_beyond
      refine ⟨_, rfl, _, rfl, _, _, _, _, rfl, rfl, sqT hrf, at0, _, _, rfl, rfl, j, _, _, rfl, je.ex ef, by decide, by omega, by omega, fun b1 Hg b10 b11 xg jg => ?_⟩
      refine ⟨_, _, rfl, rfl, _, rfl, _, rfl, _, _, _, _, rfl, rfl, sqT (xg _ _ prj hrf), at1, _, _, rfl, rfl, j, _, _, rfl, jg, by decide, by omega, by omega, fun b2 Hh b20 b21 xh jh => ?_⟩
      refine ⟨_, _, rfl, rfl, (by show 2 ≤ sizeLine; decide), fun pb Hi ni ei hi' => ?_⟩
      have pbj : pb ≠ j := jh.ne ni
      have hri := ei _ _ (xh _ _ prj (xg _ _ prj hrf))
      have hoi := ei _ _ (xh _ _ poj (xg _ _ poj hO))
      have x0i : Exj j Hc Hi := xd.trans (xe.trans ((Exj.of ef).trans (xg.trans (xh.trans (Exj.of ei)))))
      have hsi := x0i _ _ psj hsc
      have hti := x0i _ _ ptj hc
      have ji := jh.ex ei
      have e0i : Ex H Hi := exj_ex (e0.trans e1) njH (x1c.trans x0i)
      have hbi : Hi pb = some (.tup (t2 (b1 - 1, b2 - 1))) := hi'
      -- the words
      refine ⟨_, rfl, (by decide), (by decide), for_range (lo := 0) (n := 3) (fun i' σ H' => ∃ v9 v10, σ = [some (.ref a), some (.int (0 + (i : Int))), some (.ref j), some (.int wd), some (.ref pr), some (.ref ps), some (.ref pt), some (.ref po), some (.ref pb), v9, v10] ∧ Ex Hi H') ⟨_, _, rfl, Evl.Ex.refl _⟩ ?_ ?_⟩
      · rintro n σ H' hn ⟨v9, v10, rfl, e⟩
        refine ⟨_, rfl, _, rfl, _, rfl, (by show 2 ≤ sizeLine; decide), fun p6 G1 n6 f1 g1 => ?_⟩
        refine ⟨(by show 3 ≤ sizeLine; decide), fun p7 G2 n7 f2 g2 => ?_⟩
        have f12 := f1.trans f2
        have e2 := e.trans f12
        have hpick : ∃ q S, atI [V.ref pb, V.ref pb, V.ref p6] (0 + (n : Int)) = some (.ref q) ∧ G2 q = some (.tup (t2 S)) ∧ (if (0 + (n : Int)) = 0 ∨ (0 + (n : Int)) = 1 then dueV O (b1 - 1, b2 - 1) else dueV O (0, 0)) = dueV O S := by
          rcases (show n = 0 ∨ n = 1 ∨ n = 2 by omega) with rfl | rfl | rfl
          · exact ⟨pb, (b1 - 1, b2 - 1), at0, e2 _ _ hbi, rfl⟩
          · exact ⟨pb, (b1 - 1, b2 - 1), at1, e2 _ _ hbi, rfl⟩
          · exact ⟨p6, (0, 0), at2, f2 _ _ g1, rfl⟩
        obtain ⟨q, S, hq, hS, eS⟩ := hpick
        refine ⟨_, rfl, _, _, _, _, rfl, rfl, sqI g2, hq, po, q, O, S, rfl, sqT (e2 _ _ hoi), sqT hS, fun G3 f3 => ?_⟩
        have e3 := e2.trans f3
        refine ⟨_, rfl, _, rfl, _, rfl, _, rfl, _, po, pb, pt, O, (b1 - 1, b2 - 1), ts, rfl, sqT (e3 _ _ hoi), sqT (e3 _ _ hbi), sqI (e3 _ _ hti), ?_⟩
        rw [eS]
        intro G4 f4
        refine ⟨_, rfl, due_scal _ _, _, rfl, ifF (by rw [decide_eq_true rfl]; rfl) ?_⟩
        exact ⟨_, _, rfl, e3.trans f4⟩
      · rintro σ H' ⟨v9, v10, rfl, e⟩
        have ok : Ok (r1, r2) (s1, s2) := by
          unfold Ok
          dsimp only
          omega
        refine ⟨_, rfl, _, rfl, _, rfl, _, rfl, pr, ps, pt, (r1, r2), (s1, s2), ts, wd, rfl, sqT (e _ _ hri), sqT (e _ _ hsi), sqI (e _ _ hti), wd0, wd1, ok, by show r1 ≤ 100; omega, by show r2 ≤ 100; omega, bc, lc, fun G1 f1 => ?_⟩
        refine ⟨_, rfl, ifF rfl ?_⟩
        have e1' := e.trans f1
        refine ⟨_, rfl, _, rfl, _, rfl, pr, pb, (r1, r2), (b1 - 1, b2 - 1), wd, rfl, sqT (e1' _ _ hri), sqT (e1' _ _ hbi), wd0, wd1, r10, by show r1 ≤ 100; omega, r20, by show r2 ≤ 100; omega, by show -100 ≤ b1 - 1; omega, by show b1 - 1 ≤ 100; omega, by show -100 ≤ b2 - 1; omega, by show b2 - 1 ≤ 100; omega, fun G2 f2 => ?_⟩
        refine ⟨_, rfl, iteF ?_⟩
        have e2' := e1'.trans f2
        refine ⟨_, rfl, j, _, rfl, ji.ex e2', by decide, fun G3 f3 j3' => ?_⟩
        refine ⟨_, rfl, ifF rfl ?_⟩
        refine ⟨_, rfl, j, _, rfl, j3', by decide, fun G4 f4 j4' => ?_⟩
        refine ⟨_, rfl, iteF ?_⟩
        exact ⟨_, _, _, _, _, _, _, _, _, _, rfl, exj_ex (e0i.trans e2') njH (f3.trans f4)⟩
    · rintro σ H' ⟨v1, v2, v3, v4, v5, v6, v7, v8, v9, v10, rfl, e⟩
      exact k H'
end
end K34
set_option Elab.async false
set_option linter.all false
set_option maxRecDepth 100000
set_option maxHeartbeats 4000000
namespace K34
open PySem L2 My
theorem all_mk {K : PySem.W.Frag} {h : Heap} {mg : Str → Option Value} (X : K.In h) (G : h.Ns mainGlobals mg)
    {f0 : Addr} {od0 an0 : Option Addr} {sl0 : Array (Option Value)} {oc0 kV0 dc0 pm0 cd0 ct0 : Value}
    (a0 : PySem.W.nsIn K mainGlobals "need_from" = some (some (.ref f0))) (l0 : K.lookup f0 = some ⟨oc0, od0, .func (PySem.W.fnOf "need_from" "need_from" (defArgs s_need_from) (defBody s_need_from) (defScope s_need_from) .none kV0 dc0 pm0 an0 cd0 ct0), sl0⟩) (c0 : PySem.W.codeIn K cd0 "need_from" = true) (k0 : PySem.W.keepIn K (.ref f0) = true)
    {f1 : Addr} {od1 an1 : Option Addr} {sl1 : Array (Option Value)} {oc1 kV1 dc1 pm1 cd1 ct1 : Value}
    (a1 : PySem.W.nsIn K mainGlobals "need_rooms" = some (some (.ref f1))) (l1 : K.lookup f1 = some ⟨oc1, od1, .func (PySem.W.fnOf "need_rooms" "need_rooms" (defArgs s_need_rooms) (defBody s_need_rooms) (defScope s_need_rooms) .none kV1 dc1 pm1 an1 cd1 ct1), sl1⟩) (c1 : PySem.W.codeIn K cd1 "need_rooms" = true) (k1 : PySem.W.keepIn K (.ref f1) = true)
    {f2 : Addr} {od2 an2 : Option Addr} {sl2 : Array (Option Value)} {oc2 kV2 dc2 pm2 cd2 ct2 : Value}
    (a2 : PySem.W.nsIn K mainGlobals "need_scrolls" = some (some (.ref f2))) (l2 : K.lookup f2 = some ⟨oc2, od2, .func (PySem.W.fnOf "need_scrolls" "need_scrolls" (defArgs s_need_scrolls) (defBody s_need_scrolls) (defScope s_need_scrolls) .none kV2 dc2 pm2 an2 cd2 ct2), sl2⟩) (c2 : PySem.W.codeIn K cd2 "need_scrolls" = true) (k2 : PySem.W.keepIn K (.ref f2) = true)
    {f3 : Addr} {od3 an3 : Option Addr} {sl3 : Array (Option Value)} {oc3 kV3 dc3 pm3 cd3 ct3 : Value}
    (a3 : PySem.W.nsIn K mainGlobals "between" = some (some (.ref f3))) (l3 : K.lookup f3 = some ⟨oc3, od3, .func (PySem.W.fnOf "between" "between" (defArgs s_between) (defBody s_between) (defScope s_between) .none kV3 dc3 pm3 an3 cd3 ct3), sl3⟩) (c3 : PySem.W.codeIn K cd3 "between" = true) (k3 : PySem.W.keepIn K (.ref f3) = true)
    {f4 : Addr} {od4 an4 : Option Addr} {sl4 : Array (Option Value)} {oc4 kV4 dc4 pm4 cd4 ct4 : Value}
    (a4 : PySem.W.nsIn K mainGlobals "room_for" = some (some (.ref f4))) (l4 : K.lookup f4 = some ⟨oc4, od4, .func (PySem.W.fnOf "room_for" "room_for" (defArgs s_room_for) (defBody s_room_for) (defScope s_room_for) .none kV4 dc4 pm4 an4 cd4 ct4), sl4⟩) (c4 : PySem.W.codeIn K cd4 "room_for" = true) (k4 : PySem.W.keepIn K (.ref f4) = true)
    {f5 : Addr} {od5 an5 : Option Addr} {sl5 : Array (Option Value)} {oc5 kV5 dc5 pm5 cd5 ct5 : Value}
    (a5 : PySem.W.nsIn K mainGlobals "room_of" = some (some (.ref f5))) (l5 : K.lookup f5 = some ⟨oc5, od5, .func (PySem.W.fnOf "room_of" "room_of" (defArgs s_room_of) (defBody s_room_of) (defScope s_room_of) .none kV5 dc5 pm5 an5 cd5 ct5), sl5⟩) (c5 : PySem.W.codeIn K cd5 "room_of" = true) (k5 : PySem.W.keepIn K (.ref f5) = true)
    {f6 : Addr} {od6 an6 : Option Addr} {sl6 : Array (Option Value)} {oc6 kV6 dc6 pm6 cd6 ct6 : Value}
    (a6 : PySem.W.nsIn K mainGlobals "after_turn" = some (some (.ref f6))) (l6 : K.lookup f6 = some ⟨oc6, od6, .func (PySem.W.fnOf "after_turn" "after_turn" (defArgs s_after_turn) (defBody s_after_turn) (defScope s_after_turn) .none kV6 dc6 pm6 an6 cd6 ct6), sl6⟩) (c6 : PySem.W.codeIn K cd6 "after_turn" = true) (k6 : PySem.W.keepIn K (.ref f6) = true)
    {f7 : Addr} {od7 an7 : Option Addr} {sl7 : Array (Option Value)} {oc7 kV7 dc7 pm7 cd7 ct7 : Value}
    (a7 : PySem.W.nsIn K mainGlobals "scrolls_after" = some (some (.ref f7))) (l7 : K.lookup f7 = some ⟨oc7, od7, .func (PySem.W.fnOf "scrolls_after" "scrolls_after" (defArgs s_scrolls_after) (defBody s_scrolls_after) (defScope s_scrolls_after) .none kV7 dc7 pm7 an7 cd7 ct7), sl7⟩) (c7 : PySem.W.codeIn K cd7 "scrolls_after" = true) (k7 : PySem.W.keepIn K (.ref f7) = true)
    {f8 : Addr} {od8 an8 : Option Addr} {sl8 : Array (Option Value)} {oc8 kV8 dc8 pm8 cd8 ct8 : Value}
    (a8 : PySem.W.nsIn K mainGlobals "turned_by" = some (some (.ref f8))) (l8 : K.lookup f8 = some ⟨oc8, od8, .func (PySem.W.fnOf "turned_by" "turned_by" (defArgs s_turned_by) (defBody s_turned_by) (defScope s_turned_by) .none kV8 dc8 pm8 an8 cd8 ct8), sl8⟩) (c8 : PySem.W.codeIn K cd8 "turned_by" = true) (k8 : PySem.W.keepIn K (.ref f8) = true)
    {f9 : Addr} {od9 an9 : Option Addr} {sl9 : Array (Option Value)} {oc9 kV9 dc9 pm9 cd9 ct9 : Value}
    (a9 : PySem.W.nsIn K mainGlobals "lost" = some (some (.ref f9))) (l9 : K.lookup f9 = some ⟨oc9, od9, .func (PySem.W.fnOf "lost" "lost" (defArgs s_lost) (defBody s_lost) (defScope s_lost) .none kV9 dc9 pm9 an9 cd9 ct9), sl9⟩) (c9 : PySem.W.codeIn K cd9 "lost" = true) (k9 : PySem.W.keepIn K (.ref f9) = true)
    {f10 : Addr} {od10 an10 : Option Addr} {sl10 : Array (Option Value)} {oc10 kV10 dc10 pm10 cd10 ct10 : Value}
    (a10 : PySem.W.nsIn K mainGlobals "clipped" = some (some (.ref f10))) (l10 : K.lookup f10 = some ⟨oc10, od10, .func (PySem.W.fnOf "clipped" "clipped" (defArgs s_clipped) (defBody s_clipped) (defScope s_clipped) .none kV10 dc10 pm10 an10 cd10 ct10), sl10⟩) (c10 : PySem.W.codeIn K cd10 "clipped" = true) (k10 : PySem.W.keepIn K (.ref f10) = true)
    {f11 : Addr} {od11 an11 : Option Addr} {sl11 : Array (Option Value)} {oc11 kV11 dc11 pm11 cd11 ct11 : Value}
    (a11 : PySem.W.nsIn K mainGlobals "_law_jug" = some (some (.ref f11))) (l11 : K.lookup f11 = some ⟨oc11, od11, .func (PySem.W.fnOf "_law_jug" "_law_jug" (defArgs s__law_jug) (defBody s__law_jug) (defScope s__law_jug) .none kV11 dc11 pm11 an11 cd11 ct11), sl11⟩) (c11 : PySem.W.codeIn K cd11 "_law_jug" = true) (k11 : PySem.W.keepIn K (.ref f11) = true)
    {f12 : Addr} {od12 an12 : Option Addr} {sl12 : Array (Option Value)} {oc12 kV12 dc12 pm12 cd12 ct12 : Value}
    (a12 : PySem.W.nsIn K mainGlobals "_law_pour" = some (some (.ref f12))) (l12 : K.lookup f12 = some ⟨oc12, od12, .func (PySem.W.fnOf "_law_pour" "_law_pour" (defArgs s__law_pour) (defBody s__law_pour) (defScope s__law_pour) .none kV12 dc12 pm12 an12 cd12 ct12), sl12⟩) (c12 : PySem.W.codeIn K cd12 "_law_pour" = true) (k12 : PySem.W.keepIn K (.ref f12) = true)
    {f13 : Addr} {od13 an13 : Option Addr} {sl13 : Array (Option Value)} {oc13 kV13 dc13 pm13 cd13 ct13 : Value}
    (a13 : PySem.W.nsIn K mainGlobals "_law_turns" = some (some (.ref f13))) (l13 : K.lookup f13 = some ⟨oc13, od13, .func (PySem.W.fnOf "_law_turns" "_law_turns" (defArgs s__law_turns) (defBody s__law_turns) (defScope s__law_turns) .none kV13 dc13 pm13 an13 cd13 ct13), sl13⟩) (c13 : PySem.W.codeIn K cd13 "_law_turns" = true) (k13 : PySem.W.keepIn K (.ref f13) = true)
    {f14 : Addr} {od14 an14 : Option Addr} {sl14 : Array (Option Value)} {oc14 kV14 dc14 pm14 cd14 ct14 : Value}
    (a14 : PySem.W.nsIn K mainGlobals "_law_ticks" = some (some (.ref f14))) (l14 : K.lookup f14 = some ⟨oc14, od14, .func (PySem.W.fnOf "_law_ticks" "_law_ticks" (defArgs s__law_ticks) (defBody s__law_ticks) (defScope s__law_ticks) .none kV14 dc14 pm14 an14 cd14 ct14), sl14⟩) (c14 : PySem.W.codeIn K cd14 "_law_ticks" = true) (k14 : PySem.W.keepIn K (.ref f14) = true)
    {f15 : Addr} {od15 an15 : Option Addr} {sl15 : Array (Option Value)} {oc15 kV15 dc15 pm15 cd15 ct15 : Value}
    (a15 : PySem.W.nsIn K mainGlobals "_law_due" = some (some (.ref f15))) (l15 : K.lookup f15 = some ⟨oc15, od15, .func (PySem.W.fnOf "_law_due" "_law_due" (defArgs s__law_due) (defBody s__law_due) (defScope s__law_due) .none kV15 dc15 pm15 an15 cd15 ct15), sl15⟩) (c15 : PySem.W.codeIn K cd15 "_law_due" = true) (k15 : PySem.W.keepIn K (.ref f15) = true)
    {f16 : Addr} {od16 an16 : Option Addr} {sl16 : Array (Option Value)} {oc16 kV16 dc16 pm16 cd16 ct16 : Value}
    (a16 : PySem.W.nsIn K mainGlobals "_law_refused" = some (some (.ref f16))) (l16 : K.lookup f16 = some ⟨oc16, od16, .func (PySem.W.fnOf "_law_refused" "_law_refused" (defArgs s__law_refused) (defBody s__law_refused) (defScope s__law_refused) .none kV16 dc16 pm16 an16 cd16 ct16), sl16⟩) (c16 : PySem.W.codeIn K cd16 "_law_refused" = true) (k16 : PySem.W.keepIn K (.ref f16) = true)
    {f17 : Addr} {od17 an17 : Option Addr} {sl17 : Array (Option Value)} {oc17 kV17 dc17 pm17 cd17 ct17 : Value}
    (a17 : PySem.W.nsIn K mainGlobals "_law_right" = some (some (.ref f17))) (l17 : K.lookup f17 = some ⟨oc17, od17, .func (PySem.W.fnOf "_law_right" "_law_right" (defArgs s__law_right) (defBody s__law_right) (defScope s__law_right) .none kV17 dc17 pm17 an17 cd17 ct17), sl17⟩) (c17 : PySem.W.codeIn K cd17 "_law_right" = true) (k17 : PySem.W.keepIn K (.ref f17) = true)
    {f18 : Addr} {od18 an18 : Option Addr} {sl18 : Array (Option Value)} {oc18 kV18 dc18 pm18 cd18 ct18 : Value}
    (a18 : PySem.W.nsIn K mainGlobals "_law_great_right" = some (some (.ref f18))) (l18 : K.lookup f18 = some ⟨oc18, od18, .func (PySem.W.fnOf "_law_great_right" "_law_great_right" (defArgs s__law_great_right) (defBody s__law_great_right) (defScope s__law_great_right) .none kV18 dc18 pm18 an18 cd18 ct18), sl18⟩) (c18 : PySem.W.codeIn K cd18 "_law_great_right" = true) (k18 : PySem.W.keepIn K (.ref f18) = true)
    {f19 : Addr} {od19 an19 : Option Addr} {sl19 : Array (Option Value)} {oc19 kV19 dc19 pm19 cd19 ct19 : Value}
    (a19 : PySem.W.nsIn K mainGlobals "_law_clipped_right" = some (some (.ref f19))) (l19 : K.lookup f19 = some ⟨oc19, od19, .func (PySem.W.fnOf "_law_clipped_right" "_law_clipped_right" (defArgs s__law_clipped_right) (defBody s__law_clipped_right) (defScope s__law_clipped_right) .none kV19 dc19 pm19 an19 cd19 ct19), sl19⟩) (c19 : PySem.W.codeIn K cd19 "_law_clipped_right" = true) (k19 : PySem.W.keepIn K (.ref f19) = true)
    {f20 : Addr} {od20 an20 : Option Addr} {sl20 : Array (Option Value)} {oc20 kV20 dc20 pm20 cd20 ct20 : Value}
    (a20 : PySem.W.nsIn K mainGlobals "_law_room_right" = some (some (.ref f20))) (l20 : K.lookup f20 = some ⟨oc20, od20, .func (PySem.W.fnOf "_law_room_right" "_law_room_right" (defArgs s__law_room_right) (defBody s__law_room_right) (defScope s__law_room_right) .none kV20 dc20 pm20 an20 cd20 ct20), sl20⟩) (c20 : PySem.W.codeIn K cd20 "_law_room_right" = true) (k20 : PySem.W.keepIn K (.ref f20) = true)
    {f21 : Addr} {od21 an21 : Option Addr} {sl21 : Array (Option Value)} {oc21 kV21 dc21 pm21 cd21 ct21 : Value}
    (a21 : PySem.W.nsIn K mainGlobals "law" = some (some (.ref f21))) (l21 : K.lookup f21 = some ⟨oc21, od21, .func (PySem.W.fnOf "law" "law" (defArgs s_law) (defBody s_law) (defScope s_law) .none kV21 dc21 pm21 an21 cd21 ct21), sl21⟩) (c21 : PySem.W.codeIn K cd21 "law" = true) (k21 : PySem.W.keepIn K (.ref f21) = true)
    {cD : Addr} {fI cI cdI : Addr} {ocI clI cclI : Value} {odI cldI cddI anI : Option Addr} {kVI docI pmI ctI : Value} {oslI cslI ccsI : Array (Option Value)} {vsI : Array Value} {flI : Str} {tfI : Tok} {cdD : ClassData}
    (aW : PySem.W.nsIn K mainGlobals "WindowError" = some (some (.ref cD))) (iI : PySem.W.findIn K (.ref cD) "__init__" = some (some (.ref fI)))
    (lI : K.lookup fI = some ⟨ocI, odI, .func (PySem.W.fnX "__init__" "WindowError.__init__" (defArgs s_init) (defBody s_init) (defScope s_init) [("__class__", cI)] .none kVI docI pmI anI (.ref cdI) ctI), oslI⟩) (qI : PySem.W.codeIn K (.ref cdI) "WindowError.__init__" = true)
    (ceI : K.lookup cI = some ⟨clI, cldI, .cell (some (.ref cD)), cslI⟩) (fiI : K.lookup cdI = some ⟨cclI, cddI, .fields vsI, ccsI⟩) (viI : vsI[2]? = some (.str flI tfI)) (wiI : ((PR.main.file : Str) == flI) = true) (clD : PySem.W.clsIn K cD = some cdD) (suI : PySem.W.nsIn K mainGlobals "super" = some none)
    (opI : PySem.W.nsIn K cStatics "thirdparty.any" = some none) (tyI : PySem.W.typeIn K (.ref fI) = some (.type "function"))
    {e0 : Addr} {nme0 qe0 : Str} {Ne0 : Addr} {bse0 : List Value} {sne0 : List Str} {sube0 : List Value} {abe0 : Bool} {cole0 : Option Bool} {dde0 : Option Addr} {m0e0 m1e0 m2e0 m3e0 m5e0 : Option Value}
    (aCe0 : PySem.W.nsIn K mainGlobals "WindowError" = some (some (.ref e0))) (xLe0 : K.lookup e0 = some (excClassObj nme0 qe0 e0 Ne0 bse0 PySem.HandSPX.veTail true sne0 sube0 abe0 cole0 dde0 m0e0 m1e0 m2e0 m3e0 m5e0 "ValueError.__new__")) (rve0 : e0 = cD)
    (sae0 : PySem.W.findIn K (.ref e0) "__setattr__" = some (some (.builtin "object.__setattr__"))) (gae0 : PySem.W.findIn K (.ref e0) "__getattribute__" = some (some (.builtin "BaseException.__getattribute__"))) (gge0 : PySem.W.findIn K (.ref e0) "__getattr__" = some none) (nve0 : PySem.W.findIn K (.ref e0) "value" = some none) (ine0 : PySem.W.findIn K (.ref e0) "__init__" = some (some (.ref fI)))
    (kCe0 : PySem.W.keepIn K (.ref e0) = true) (eCe0 : PySem.W.subIn K (.ref e0) (.type "BaseException") = some true) (tCe0 : PySem.W.typeIn K (.ref e0) = some (.type "type")) (hCe0 : PySem.W.hasDictIn K e0 = true) (mre0 : PySem.W.mroIn K e0 (.ref cD) = some true) (ice0 : PySem.W.isClsIn K e0 = true) (sve0 : PySem.W.subIn K (.ref e0) (.type "ValueError") = some true)
    {e1 : Addr} {nme1 qe1 : Str} {Ne1 : Addr} {bse1 : List Value} {sne1 : List Str} {sube1 : List Value} {abe1 : Bool} {cole1 : Option Bool} {dde1 : Option Addr} {m0e1 m1e1 m2e1 m3e1 m5e1 : Option Value}
    (aCe1 : PySem.W.nsIn K mainGlobals "InvalidNumber" = some (some (.ref e1))) (xLe1 : K.lookup e1 = some (excClassObj nme1 qe1 e1 Ne1 bse1 (.ref cD :: PySem.HandSPX.veTail) true sne1 sube1 abe1 cole1 dde1 m0e1 m1e1 m2e1 m3e1 m5e1 "ValueError.__new__")) (rve1 : (e1 == cD) = false)
    (sae1 : PySem.W.findIn K (.ref e1) "__setattr__" = some (some (.builtin "object.__setattr__"))) (gae1 : PySem.W.findIn K (.ref e1) "__getattribute__" = some (some (.builtin "BaseException.__getattribute__"))) (gge1 : PySem.W.findIn K (.ref e1) "__getattr__" = some none) (nve1 : PySem.W.findIn K (.ref e1) "value" = some none) (ine1 : PySem.W.findIn K (.ref e1) "__init__" = some (some (.ref fI)))
    (kCe1 : PySem.W.keepIn K (.ref e1) = true) (eCe1 : PySem.W.subIn K (.ref e1) (.type "BaseException") = some true) (tCe1 : PySem.W.typeIn K (.ref e1) = some (.type "type")) (hCe1 : PySem.W.hasDictIn K e1 = true) (mre1 : PySem.W.mroIn K e1 (.ref cD) = some true) (ice1 : PySem.W.isClsIn K e1 = true) (sve1 : PySem.W.subIn K (.ref e1) (.type "ValueError") = some true)
    (xm_InvalidNumber_InvalidNumber : PySem.W.subIn K (.ref e1) (.ref e1) = some true)
    (z_zip : PySem.W.nsIn K mainGlobals "zip" = some none)
    (z_max : PySem.W.nsIn K mainGlobals "max" = some none)
    (z_min : PySem.W.nsIn K mainGlobals "min" = some none)
    (z_sum : PySem.W.nsIn K mainGlobals "sum" = some none)
    (z_len : PySem.W.nsIn K mainGlobals "len" = some none)
    (z_int : PySem.W.nsIn K mainGlobals "int" = some none)
    (z_range : PySem.W.nsIn K mainGlobals "range" = some none)
    (z_abs : PySem.W.nsIn K mainGlobals "abs" = some none)
    (z_isinstance : PySem.W.nsIn K mainGlobals "isinstance" = some none)
    (z_tuple : PySem.W.nsIn K mainGlobals "tuple" = some none)
    (z_sorted : PySem.W.nsIn K mainGlobals "sorted" = some none)
    : ∃ T : Txt K mg, T.d_law = PySem.W.fnOf "law" "law" (defArgs s_law) (defBody s_law) (defScope s_law) .none kV21 dc21 pm21 an21 cd21 ct21 ∧ T.a_law = f21 :=
  ⟨⟨f0, _, fun_mk (st := s_need_from) l0 c0 k0, PySem.W.mg_of X G a0, f1, _, fun_mk (st := s_need_rooms) l1 c1 k1, PySem.W.mg_of X G a1, f2, _, fun_mk (st := s_need_scrolls) l2 c2 k2, PySem.W.mg_of X G a2, f3, _, fun_mk (st := s_between) l3 c3 k3, PySem.W.mg_of X G a3, f4, _, fun_mk (st := s_room_for) l4 c4 k4, PySem.W.mg_of X G a4, f5, _, fun_mk (st := s_room_of) l5 c5 k5, PySem.W.mg_of X G a5, f6, _, fun_mk (st := s_after_turn) l6 c6 k6, PySem.W.mg_of X G a6, f7, _, fun_mk (st := s_scrolls_after) l7 c7 k7, PySem.W.mg_of X G a7, f8, _, fun_mk (st := s_turned_by) l8 c8 k8, PySem.W.mg_of X G a8, f9, _, fun_mk (st := s_lost) l9 c9 k9, PySem.W.mg_of X G a9, f10, _, fun_mk (st := s_clipped) l10 c10 k10, PySem.W.mg_of X G a10, f11, _, fun_mk (st := s__law_jug) l11 c11 k11, PySem.W.mg_of X G a11, f12, _, fun_mk (st := s__law_pour) l12 c12 k12, PySem.W.mg_of X G a12, f13, _, fun_mk (st := s__law_turns) l13 c13 k13, PySem.W.mg_of X G a13, f14, _, fun_mk (st := s__law_ticks) l14 c14 k14, PySem.W.mg_of X G a14, f15, _, fun_mk (st := s__law_due) l15 c15 k15, PySem.W.mg_of X G a15, f16, _, fun_mk (st := s__law_refused) l16 c16 k16, PySem.W.mg_of X G a16, f17, _, fun_mk (st := s__law_right) l17 c17 k17, PySem.W.mg_of X G a17, f18, _, fun_mk (st := s__law_great_right) l18 c18 k18, PySem.W.mg_of X G a18, f19, _, fun_mk (st := s__law_clipped_right) l19 c19 k19, PySem.W.mg_of X G a19, f20, _, fun_mk (st := s__law_room_right) l20 c20 k20, PySem.W.mg_of X G a20, f21, _, fun_mk (st := s_law) l21 c21 k21, PySem.W.mg_of X G a21, fI, cI, cdI, cD, _, ⟨⟨_, _, _, _, _, _, _, _, rfl, lI⟩, qI, ⟨_, _, _, ceI⟩, ⟨_, _, _, _, _, _, fiI, viI, wiI⟩, ⟨_, clD⟩, PySem.W.mg_none_of X G suI, by rfl, opI⟩, e0, ⟨⟨⟨_, _, _, _, _, _, _, _, _, _, _, _, _, _, _, xLe0, rfl⟩, sae0, eCe0, tCe0, kCe0⟩, ine0, tyI, nve0, mre0, sup_self xLe0 rve0, sve0, ⟨gae0, gge0, eCe0, hCe0⟩⟩, PySem.W.mg_of X G aCe0, e1, ⟨⟨⟨_, _, _, _, _, _, _, _, _, _, _, _, _, _, _, xLe1, rfl⟩, sae1, eCe1, tCe1, kCe1⟩, ine1, tyI, nve1, mre1, sup_child xLe1 rve1, sve1, ⟨gae1, gge1, eCe1, hCe1⟩⟩, PySem.W.mg_of X G aCe1, exm_gen eCe1 ice1 tCe1 xm_InvalidNumber_InvalidNumber, PySem.W.mg_none_of X G z_zip, PySem.W.mg_none_of X G z_max, PySem.W.mg_none_of X G z_min, PySem.W.mg_none_of X G z_sum, PySem.W.mg_none_of X G z_len, PySem.W.mg_none_of X G z_int, PySem.W.mg_none_of X G z_range, PySem.W.mg_none_of X G z_abs, PySem.W.mg_none_of X G z_isinstance, PySem.W.mg_none_of X G z_tuple, PySem.W.mg_none_of X G z_sorted⟩, rfl, rfl⟩
theorem walk {l : PySem.W.OpenLaw} {q : Program} {loose : List Str} {XP : (Str → Option Value) → Heap → Prop} {YP : World → Heap → Prop} {d : DefRec} {K : Params → PySem.W.Frag} (hn : l.most = some 63) (hdf : d.params.defaults = [])
    (hY : ∀ (w : World) (h : Heap), YP w h → (K w.params).In h)
    (F : ∀ (w : World) (mg : Str → Option Value) (fa : Addr) (h : Heap), (K w.params).In h → h.Ns mainGlobals mg → mg d.name = some (.ref fa) →
      ∃ fd : FuncData, (∀ (s : Shared) (u : Value), BindsTo s fd ⟨[u], []⟩ [("_law_script", u)]) ∧ ∀ base : Heap, (K w.params).In base → base.Ns mainGlobals mg → FnOk l.prog w (K w.params) mg base CX0 7 fa fd ["_law_script"] (sp_law (K w.params))) :
    PySem.W.WalkO q loose XP YP l.row.toRowW d [] (fun f vs => PySem.call f vs) :=
  L2.walk_of (n := 63) (k := 7) (x := "_law_script") (CX := fun _ => CX0) (sp := fun w => sp_law (K w.params)) hn (by decide) hdf ⟨rfl, by decide, by decide⟩ hY F (fun _ _ a ns hl _ hS => ⟨a, ns, rfl, hS, hl, fun _ => rfl⟩) fun _ _ _ _ _ z => z
end K34
open PySem PySem.W PyProof.Rows
set_option maxRecDepth 100000 in
set_option maxHeartbeats 0 in
theorem PySem.Challenge.cw_listwindow_k34_turns_tick_by_tick_holds : PySem.Challenge.rw_listwindow_k34_turns_tick_by_tick.Holds := by
  w_on; o_law; k_head; (case hw => w_witness2)
  k_fill
  refine K34.walk (l := PySem.Challenge.rw_listwindow_k34_turns_tick_by_tick) rfl rfl (fun w h Y => PySem.W.kIn_of Y) ?F
  case F =>
    intro w mg fa h KX G hmg
    have T : ∃ T : K34.Txt _ mg, _ ∧ _ := K34.all_mk KX G (by k_is) (by k_is) (by k_is) (by k_is) (by k_is) (by k_is) (by k_is) (by k_is) (by k_is) (by k_is) (by k_is) (by k_is) (by k_is) (by k_is) (by k_is) (by k_is) (by k_is) (by k_is) (by k_is) (by k_is) (by k_is) (by k_is) (by k_is) (by k_is) (by k_is) (by k_is) (by k_is) (by k_is) (by k_is) (by k_is) (by k_is) (by k_is) (by k_is) (by k_is) (by k_is) (by k_is) (by k_is) (by k_is) (by k_is) (by k_is) (by k_is) (by k_is) (by k_is) (by k_is) (by k_is) (by k_is) (by k_is) (by k_is) (by k_is) (by k_is) (by k_is) (by k_is) (by k_is) (by k_is) (by k_is) (by k_is) (by k_is) (by k_is) (by k_is) (by k_is) (by k_is) (by k_is) (by k_is) (by k_is) (by k_is) (by k_is) (by k_is) (by k_is) (by k_is) (by k_is) (by k_is) (by k_is) (by k_is) (by k_is) (by k_is) (by k_is) (by k_is) (by k_is) (by k_is) (by k_is) (by k_is) (by k_is) (by k_is) (by k_is) (by k_is) (by k_is) (by k_is) (by k_is) (by k_is) (by k_is) (by k_is) (by k_is) (by k_is) (by k_is) (by rfl) (by decide +kernel) (by k_is) (by k_is) (by k_is) (by k_is) (by k_is) (by k_is) (by rfl) (by k_is) (by k_is) (by k_is) (by k_is) (by k_is) (by k_is) (by k_is) (by k_is) (by k_is) (by k_is) (by k_is) (by k_is) (by k_is) (by k_is) (by rfl) (by k_is) (by k_is) (by k_is) (by k_is) (by k_is) (by k_is) (by k_is) (by k_is) (by k_is) (by k_is) (by k_is) (by k_is) (by first | rfl | k_is) (by k_is) (by k_is) (by k_is) (by k_is) (by k_is) (by k_is) (by k_is) (by k_is) (by k_is) (by k_is) (by k_is)
    obtain ⟨T, e1, e2⟩ := T
    have e3 := hmg.symm.trans T.g_law
    cases e3
    exact ⟨T.d_law, fun s v => by rw [e1]; exact .of_eq rfl, fun base _ _ => K34.ok_law T⟩
#print axioms PySem.Challenge.cw_listwindow_k34_turns_tick_by_tick_holds

