import PyProof.Rows.All
import Wide.All
import OpenK.AllK
import Wide.FinOn
import HandS.ForMost
import HandS.Wide
import HandS.Style
import HandS.SortInts
import HandS.IsInst
import HandS.Evl
import HandS.Walk
import HandS.ForExc
import HandS.ExcInit
import HandS.ExcField
import HandS.ExcSuper
import HandS.Nested
import KE.KExcSuper
import HandS.Zip
import HandS.Sort
import PyProof.ReprRoads
import HandS.DictTup
import HandS.Set
import HandS.Dict
import HandS.DictComp
import HandS.NoneIn
import HandS.Conv
import HandS.OwnEq
import HandS.Property
import KE.SortKeyed
import HandS.SortOrd
import HandS.SetFor
import HandS.Strs
import HandS.Star
import KE.SortData
import KE.GoesEnum
import KE.KDictKeyed
import KE.KDictDisplayH
import HandS.TupLen
import KE.KDictPairs
import PySem.Challenge.RW_listwindow_k10_forms_joined_and_counted
set_option Elab.async false
set_option linter.all false
set_option maxRecDepth 100000
set_option maxHeartbeats 4000000
/-! My own rules over the hand layer: calls by keywords alone, powers of great ints, what a heap keeps. -/
namespace My
open PySem PySem.Spec PyProof.Rows L2
/-! ### calls by keywords -/
def kg (n m : Nat) (π : List Nat) {α : Type} (us ws : List α) : List α := if us.length = n ∧ ws.length = m then π.filterMap (fun i => (us ++ ws)[i]?) else []
theorem vals_pick {xs : List V} {us : List Value} (r : Vals xs us) : ∀ (π : List Nat), Vals (π.filterMap (fun i => xs[i]?)) (π.filterMap (fun i => us[i]?))
  | [] => .nil
  | i :: π => by
    have ih := vals_pick r π
    cases e : xs[i]? with
    | none =>
      rw [List.filterMap_cons, e, List.filterMap_cons, r.none_of e]
      exact ih
    | some x =>
      obtain ⟨u, h1, h2⟩ := r.get e
      rw [List.filterMap_cons, e, List.filterMap_cons, h1]
      exact .cons h2 ih
theorem kg_rel {n m : Nat} {π : List Nat} {vs zs : List V} {us ws : List Value} (r : Vals vs us) (rz : Vals zs ws) : Vals (kg n m π vs zs) (kg n m π us ws) := by
  unfold kg
  rw [r.length, rz.length]
  split
  · exact vals_pick (r.append rz) π
  · exact .nil
theorem kbinds {K : PySem.W.Frag} {x qual : Str} {st : Stmt} {f : Addr} {fd : FuncData} {ps ks : List Str} (n m : Nat) (π : List Nat) (F : Fun K x qual st f fd) (hp : 0 < ps.length)
    (h : ∀ (kV doc pm : Value) (an : Option Addr) (cdv ct : Value) (us ws : List Value), us.length = n → ws.length = m → bindArgs (PySem.W.fnOf x qual (defArgs st) (defBody st) (defScope st) .none kV doc pm an cdv ct) ⟨us, ks.zip ws⟩ = pure (ps.zip (kg n m π us ws))) : KBinds K fd ps ks (kg n m π) (kg n m π) := by
  obtain ⟨oc, od, kV, doc, pm, an, cdv, ct, osl, rfl, lk, hcd⟩ := F.ex
  refine ⟨fun s us ws _ hl => ?_, fun r rz => kg_rel r rz⟩
  by_cases z : us.length = n ∧ ws.length = m
  · exact .of_eq (h kV doc pm an cdv ct us ws z.1 z.2)
  · unfold kg at hl
    rw [if_neg z] at hl
    rw [← hl] at hp
    exact absurd hp (Nat.lt_irrefl _)
section
variable {X : Cx} {CX : CXT} {k : Nat} {f C : Addr} {fd : FuncData} {ps ks : List Str} {sp : Sp} {E : XK} {x m : Str} {p pos apos kpos : Pos} {kws : List Keyword} {tk : TA} {g : List Value → List Value → List Value} {gV : List V → List V → List V}
/-- f(k = v, ..) -/
theorem pe_callK0 (F : FnOk X.prog X.w X.K X.mg X.base CX k f fd ps sp) (hr : Room k X.A) (hg : Gl X x) (hm : X.mg x = some (.ref f)) (hk : PySem.W.keepIn X.K (.ref f) = true) (hb : KBinds X.K fd ps ks g gV) (hx : Passes CX X E)
    (hkw : PK X kws tk) (hall : (backToKw pos (keywordEach kws X.env)).all (·.1.isSome) = true := by rfl) (hks : (backToKw pos (keywordEach kws X.env)).filterMap (·.1) = ks := by rfl)
    (hdb : (x == ("__debug__" : Str)) = false := by decide)
    (hpl : ((backTo pos (starEach [] X.env)).any (·.1) || (backToKw pos (keywordEach kws X.env)).any (·.1.isNone)) = false := by rfl) :
    PE X (.Call (.Name x p) [] kws pos) (tCallK sp gV E tNil tk) := by
  refine ⟨fun pins s σ H Q I h => ?_⟩
  refine wpAny_Call_Name_kw (ld_glob I hg hm ?_ hdb)
  refine PySem.W.callWith_KW0 (h₀ := X.base) I.ok.mod.kin hk hall ?_ hpl
  refine thn (hkw.run pos pins s σ H _ I h) fun ws s2 ⟨zs, H2, I2, rz, q2⟩ => ⟨I2.kIn, ?_⟩
  rw [hks]
  exact run_fnk (us := []) (vs := []) F hr hb hx I2 .nil rz q2
end
/-! ### powers of great ints -/
/-- a power of together at most 2 ^ 27 bits -/
def CPowW (i j : Int) : Prop := 0 ≤ j ∧ ((i.natAbs.log2 : Int) + 1) * j ≤ 2 ^ 27
theorem bits_le (x : Int) : (Builtin.Int.intBits x : Int) ≤ (x.natAbs.log2 : Int) + 1 := by
  unfold Builtin.Int.intBits
  split <;> omega
theorem op_powW {X : Cx} : OpR X (binaryOp .Pow) (rI CPowW fun i j => .int (i ^ j.toNat)) := opI fun i j _ _ _ _ _ hc q =>
  pow_int hc.1 (Int.le_trans (Int.mul_le_mul_of_nonneg_right (bits_le i) hc.1) hc.2) q
theorem powW_of {i : Int} {j : Nat} {a : Nat} (h : i.natAbs < 2 ^ a) (h0 : 0 < a) (hj : a * j ≤ 2 ^ 27) : CPowW i (j : Int) := by
  have := PySem.Flt.log2_lt_of h0 h
  refine ⟨Int.natCast_nonneg _, ?_⟩
  have e : ((i.natAbs.log2 : Int) + 1) * (j : Int) = (((i.natAbs.log2 + 1) * j : Nat) : Int) := by
    rw [Int.natCast_mul]
    rfl
  rw [e]
  have : (i.natAbs.log2 + 1) * j ≤ a * j := Nat.mul_le_mul_right _ this
  have : (i.natAbs.log2 + 1) * j ≤ 2 ^ 27 := Nat.le_trans this hj
  omega
/-! ### heaps -/
abbrev Ex := Evl.Ex
/-- all but the object at j is as it was -/
def Exj (j : Addr) (H H' : Hp) : Prop := ∀ b o, b ≠ j → H b = some o → H' b = some o
theorem Exj.refl (j : Addr) (H : Hp) : Exj j H H := fun _ _ _ h => h
theorem Exj.trans {j : Addr} {H H1 H2 : Hp} (a : Exj j H H1) (b : Exj j H1 H2) : Exj j H H2 := fun x o n h => b x o n (a x o n h)
theorem Exj.of {j : Addr} {H H' : Hp} (a : Ex H H') : Exj j H H' := fun x o _ h => a x o h
theorem Exj.upd {j : Addr} {H H' : Hp} {o : HO} (a : Exj j H H') : Exj j H (upd H' j o) := fun x u n h => by
  rw [upd_ne n]
  exact a x u n h
theorem Exj.new {j p : Addr} {H H' : Hp} {o : HO} (a : Exj j H H') (h : H' p = none) : Exj j H (L2.upd H' p o) := fun x u n e => by
  have := a x u n e
  rw [upd_ne (ne_of_none this h)]
  exact this
theorem Exj.sq {K : PySem.W.Frag} {j : Addr} {H H' : Hp} {a : Addr} {xs : List V} (e : Exj j H H') (n : a ≠ j) (h : SqL K H a xs) : SqL K H' a xs := by
  rcases h with (h | ⟨o, h⟩) | h
  · exact .inl (.inl (e _ _ n h))
  · exact .inl (.inr ⟨o, e _ _ n h⟩)
  · exact .inr h
/-- a new object, its heap by name -/
theorem newO {H : Hp} {o : HO} {P : V → Hp → Prop} (k : ∀ p H', H p = none → Ex H H' → H' p = some o → P (.ref p) H') : ∀ p, H p = none → P (.ref p) (L2.upd H p o) := fun p hp => k p _ hp (Evl.Ex.new hp) upd_same
theorem sqI {K : PySem.W.Frag} {H : Hp} {a : Addr} {xs : List V} (h : H a = some (.lst xs)) : SqL K H a xs := .inl (.inl h)
theorem sqT {K : PySem.W.Frag} {H : Hp} {a : Addr} {xs : List V} (h : H a = some (.tup xs)) : SqT K H a xs := .inl (.inl h)
/-! ### data: how a thing of Lean stands in the heap -/
/-- a way of writing things as data: it can be laid, it is no deeper than n, equal data are equal things -/
structure Good {α : Type} [DecidableEq α] (e : α → PyData) (n : Nat) : Prop where
  lay : ∀ x, (e x).canLay0 = true
  dep : ∀ x, (e x).depth ≤ n
  eqv : ∀ x y, PyData.eqv (e x) (e y) = decide (x = y)
def eL {α : Type} (e : α → PyData) (xs : List α) : PyData := .list (xs.map e)
def eT {α : Type} (e : α → PyData) (xs : List α) : PyData := .tuple (xs.map e)
def eP {α β : Type} (e : α → PyData) (f : β → PyData) (p : α × β) : PyData := .tuple [e p.1, f p.2]
theorem goodI : Good PyData.int 0 := ⟨fun _ => rfl, fun _ => Nat.le_refl _, fun x y => by
  show (x == y) = _
  rw [Bool.eq_iff_iff]
  simp⟩
theorem goodB : Good PyData.bool 0 := ⟨fun _ => rfl, fun _ => Nat.le_refl _, fun x y => by
  show (x == y) = _
  rw [Bool.eq_iff_iff]
  simp⟩
section
variable {α β : Type} [DecidableEq α] [DecidableEq β] {e : α → PyData} {f : β → PyData} {n m : Nat}
theorem Good.layAll (g : Good e n) : ∀ xs : List α, PyData.canLayAll0 (xs.map e) = true
  | [] => rfl
  | x :: xs => by
    show (PyData.canLay0 (e x) && PyData.canLayAll0 (xs.map e)) = true
    rw [g.layAll xs, g.lay x]
    rfl
theorem Good.depAll (g : Good e n) : ∀ xs : List α, PyData.depthAll (xs.map e) ≤ n
  | [] => Nat.zero_le _
  | x :: xs => by
    show max (PyData.depth (e x)) (PyData.depthAll (xs.map e)) ≤ n
    exact Nat.max_le.mpr ⟨g.dep x, g.depAll xs⟩
theorem Good.eqvAll (g : Good e n) : ∀ xs ys : List α, PyData.eqvAll (xs.map e) (ys.map e) = decide (xs = ys)
  | [], [] => rfl
  | [], _ :: _ => rfl
  | _ :: _, [] => rfl
  | x :: xs, y :: ys => by
    show (PyData.eqv (e x) (e y) && PyData.eqvAll (xs.map e) (ys.map e)) = _
    rw [g.eqvAll xs ys, g.eqv, Bool.eq_iff_iff]
    simp
theorem goodL (g : Good e n) : Good (eL e) (n + 1) := ⟨fun xs => g.layAll xs, fun xs => by
  show PyData.depthAll (xs.map e) + 1 ≤ n + 1
  have := g.depAll xs
  omega, fun xs ys => g.eqvAll xs ys⟩
theorem goodT (g : Good e n) : Good (eT e) (n + 1) := ⟨fun xs => g.layAll xs, fun xs => by
  show PyData.depthAll (xs.map e) + 1 ≤ n + 1
  have := g.depAll xs
  omega, fun xs ys => g.eqvAll xs ys⟩
theorem goodP (g : Good e n) (k : Good f n) : Good (eP e f) (n + 1) := ⟨fun p => by
    show (PyData.canLay0 (e p.1) && (PyData.canLay0 (f p.2) && true)) = true
    rw [g.lay, k.lay]
    rfl, fun p => by
    show max (PyData.depth (e p.1)) (max (PyData.depth (f p.2)) 0) + 1 ≤ n + 1
    have h1 := g.dep p.1
    have h2 := k.dep p.2
    have : max (PyData.depth (e p.1)) (max (PyData.depth (f p.2)) 0) ≤ n := Nat.max_le.mpr ⟨h1, Nat.max_le.mpr ⟨h2, Nat.zero_le _⟩⟩
    omega, fun p q => by
    show (PyData.eqv (e p.1) (e q.1) && (PyData.eqv (f p.2) (f q.2) && true)) = _
    rw [g.eqv, k.eqv, Bool.eq_iff_iff]
    obtain ⟨a, b⟩ := p
    obtain ⟨c, d⟩ := q
    simp⟩
theorem Good.shaped (g : Good e n) (h : n ≤ 64) (x : α) : SeqAt.shaped (e x) = true := by
  unfold SeqAt.shaped
  rw [g.lay x, decide_eq_true (Nat.le_trans (g.dep x) h)]
  rfl
/-- two things compared -/
theorem eqE {K : PySem.W.Frag} {H : Hp} {v u : V} {x y : α} {Q : VK} (g : Good e n) (hn : n ≤ 64) (h1 : Dp K H v (e x)) (h2 : Dp K H u (e y)) (q : Q (.bl (decide (x = y))) H) : rEqD K v u H Q :=
  ⟨_, _, h1, h2, g.shaped hn x, g.shaped hn y, by rw [g.eqv]; exact q⟩
theorem neE {K : PySem.W.Frag} {H : Hp} {v u : V} {x y : α} {Q : VK} (g : Good e n) (hn : n ≤ 64) (h1 : Dp K H v (e x)) (h2 : Dp K H u (e y)) (q : Q (.bl (!decide (x = y))) H) : rNeD K v u H Q :=
  ⟨_, _, h1, h2, g.shaped hn x, g.shaped hn y, by rw [g.eqv]; exact q⟩
end
theorem dpI {K : PySem.W.Frag} {H : Hp} : ∀ (ns : List Int), DpAll K H (ns.map V.int) (ns.map PyData.int)
  | [] => .nil
  | n :: ns => .cons (.int n) (dpI ns)
/-- a list of ints -/
theorem dpL {K : PySem.W.Frag} {H : Hp} {a : Addr} {ns : List Int} (h : SqL K H a (ns.map V.int)) : Dp K H (.ref a) (eL PyData.int ns) := .lst h (dpI ns)
theorem dpT {K : PySem.W.Frag} {H : Hp} {a : Addr} {ns : List Int} (h : SqT K H a (ns.map V.int)) : Dp K H (.ref a) (eT PyData.int ns) := .tup h (dpI ns)
/-- lists of ints compared -/
theorem eqI_ {K : PySem.W.Frag} {H : Hp} {a b : Addr} {xs ys : List Int} {Q : VK} (h1 : SqL K H a (xs.map V.int)) (h2 : SqL K H b (ys.map V.int)) (q : Q (.bl (decide (xs = ys))) H) : rEqD K (.ref a) (.ref b) H Q := eqE (goodL goodI) (by decide) (dpL h1) (dpL h2) q
theorem neI_ {K : PySem.W.Frag} {H : Hp} {a b : Addr} {xs ys : List Int} {Q : VK} (h1 : SqL K H a (xs.map V.int)) (h2 : SqL K H b (ys.map V.int)) (q : Q (.bl (!decide (xs = ys))) H) : rNeD K (.ref a) (.ref b) H Q := neE (goodL goodI) (by decide) (dpL h1) (dpL h2) q
/-! ### new objects, the heap behind them by a letter -/
section
variable {X : Cx} {es : List Expr} {t : TA} {pos : Pos}
theorem pe_weak {e : Expr} {t t' : TE} (h : PE X e t) (w : ∀ σ H Q, t' σ H Q → t σ H Q) : PE X e t' := ⟨fun pins s σ H Q I q => h.run pins s σ H Q I (w σ H Q q)⟩
def tCutA (t : TA) : TA := fun σ H Q => ∃ M : List V → Hp → Prop, t σ H M ∧ ∀ vs H', M vs H' → Q vs H'
theorem pa_cut (h : PA X es t) : PA X es (tCutA t) := ⟨fun pos pins s σ H Q I ⟨M, hm, hq⟩ => thn (h.run pos pins s σ H M I hm) fun us s1 ⟨xs, H1, I1, r, q⟩ => ⟨xs, H1, I1, r, hq xs H1 q⟩⟩
/-- a new thing o, at any free place of any heap that keeps H -/
def New (o : HO) (H : Hp) (Q : VK) : Prop := ∀ p H', H p = none → Ex H H' → H' p = some o → Q (.ref p) H'
theorem New.go {o : HO} {H : Hp} {Q : VK} (k : New o H Q) (p : Addr) (hp : H p = none) : Q (.ref p) (upd H p o) := k p _ hp (Evl.Ex.new hp) upd_same
def tLstG (t : TA) : TE := fun σ H Q => t σ H fun xs H1 => xs.length ≤ sizeLine ∧ New (.lst xs) H1 Q
def tTupG (t : TA) : TE := fun σ H Q => t σ H fun xs H1 => xs.length ≤ sizeLine ∧ New (.tup xs) H1 Q
theorem pe_lstG (h : PA X es t) : PE X (.List es pos) (tLstG t) := pe_weak (pe_lst (pa_cut h)) fun σ H Q q => ⟨_, q, fun _ _ z => ⟨z.1, fun p hp => z.2.go p hp⟩⟩
theorem pe_tupG {x1} (h : PA X es t) : PE X (.Tuple es x1 pos) (tTupG t) := pe_weak (pe_tup (pa_cut h)) fun σ H Q q => ⟨_, q, fun _ _ z => ⟨z.1, fun p hp => z.2.go p hp⟩⟩
def rCatG : R2 := fun x y H Q => ∃ l b xs zs, x = .ref l ∧ y = .ref b ∧ H l = some (.lst xs) ∧ H b = some (.lst zs) ∧ xs.length + zs.length ≤ sizeLine ∧ New (.lst (xs ++ zs)) H Q
theorem op_catG : OpR X (binaryOp .Add) rCatG := fun pins s σ H x y v u Q I rx ry ⟨l, b, xs, zs, h1, h2, h3, h4, h5, k⟩ => op_cat pins s σ H x y v u Q I rx ry ⟨l, b, xs, zs, h1, h2, h3, h4, h5, fun p hp => k.go p hp⟩
def rRepG : R2 := fun x y H Q => ∃ l k xs, x = .ref l ∧ y = .int k ∧ H l = some (.lst xs) ∧ -(2 ^ 63) ≤ k ∧ k < 2 ^ 63 ∧ xs.length * k.toNat ≤ sizeLine ∧ New (.lst (List.replicate k.toNat xs).flatten) H Q
theorem op_repG : OpR X (binaryOp .Mult) rRepG := fun pins s σ H x y v u Q I rx ry ⟨l, k, xs, h1, h2, h3, h4, h5, h6, z⟩ => op_rep pins s σ H x y v u Q I rx ry ⟨l, k, xs, h1, h2, h3, h4, h5, h6, fun p hp => z.go p hp⟩
def rSlG (K : PySem.W.Frag) : V → Option Int → Option Int → Hp → VK → Prop := fun x lo hi H Q => ∃ a xs, x = .ref a ∧ SqL K H a xs ∧ New (.lst (cutV xs lo hi)) H Q
theorem sl_listG : SlR X (rSlG X.K) := fun pins s σ H x v vl vu lo hi sl Q I rx hs pl pu ⟨a, xs, h1, h2, k⟩ => sl_list pins s σ H x v vl vu lo hi sl Q I rx hs pl pu ⟨a, xs, h1, h2, fun p hp => k.go p hp⟩
def rListG (K : PySem.W.Frag) : List V → Hp → VK → Prop := fun xs H Q => ∃ p ys, xs = [.ref p] ∧ (SqL K H p ys ∨ SqT K H p ys) ∧ New (.lst ys) H Q
theorem call_listG : CallR X (.type "list") (rListG X.K) := fun pins s σ H xs us Q I r ⟨p, ys, h1, h2, k⟩ => call_list_of pins s σ H xs us Q I r ⟨p, ys, h1, h2, fun p hp => k.go p hp⟩
def rTupleG (K : PySem.W.Frag) : List V → Hp → VK → Prop := fun xs H Q => ∃ p ys, xs = [.ref p] ∧ SqL K H p ys ∧ New (.tup ys) H Q
theorem call_tupleG : CallR X (.type "tuple") (rTupleG X.K) := fun pins s σ H xs us Q I r ⟨p, ys, h1, h2, k⟩ => call_tuple_of pins s σ H xs us Q I r ⟨p, ys, h1, .inl ⟨h2, fun p hp => k.go p hp⟩⟩
def rSortedG (K : PySem.W.Frag) : List V → Hp → VK → Prop := fun vs H Q => ∃ (a : Addr) (ns : List Int), vs = [V.ref a] ∧ SqL K H a (ns.map V.int) ∧ ∀ ns' : List Int, ns'.Perm ns → ns'.Pairwise (· ≤ ·) → New (.lst (ns'.map V.int)) H Q
theorem cr_sortedG : CallR X (.builtin "sorted") (rSortedG X.K) := fun pins s σ H xs us Q I r ⟨a, ns, h1, h2, k⟩ => cr_sortedI pins s σ H xs us Q I r ⟨a, ns, h1, h2, fun ns' p h3 h4 hp => (k ns' h3 h4).go p hp⟩
end
/-! ### slices -/
theorem cut_to (xs : List V) (n : Nat) : cutV xs none (some (n : Int)) = xs.take n := by
  unfold cutV
  rw [HT.sIx_none, HT.sIx_nat, List.drop_zero, Nat.sub_zero]
  by_cases h : n ≤ xs.length
  · rw [Nat.min_eq_left h]
  · rw [Nat.min_eq_right (by omega), List.take_of_length_le (Nat.le_refl _), List.take_of_length_le (by omega)]
theorem cut_from (xs : List V) (n : Nat) : cutV xs (some (n : Int)) none = xs.drop n := by
  unfold cutV
  rw [HT.sIx_none, HT.sIx_nat]
  by_cases h : n ≤ xs.length
  · rw [Nat.min_eq_left h, List.take_of_length_le (by rw [List.length_drop]; exact Nat.le_refl _)]
  · rw [Nat.min_eq_right (by omega), List.drop_eq_nil_of_le (Nat.le_refl _), List.drop_eq_nil_of_le (by omega)]
    exact List.take_nil
/-! ### ways that come together -/
section
variable {X : Cx}
def tCutE (te : TE) : TE := fun σ H Q => ∃ M : V → Hp → Prop, te σ H M ∧ ∀ v H', M v H' → Q v H'
def tCutT (tt : TT) : TT := fun σ H Q => ∃ M : Bool → Hp → Prop, tt σ H M ∧ ∀ b H', M b H' → Q b H'
def tCutS (t : TS) : TS := fun D σ H => ∃ M : L2.St → Hp → Prop, t { D with nx := M } σ H ∧ ∀ σ' H', M σ' H' → D.nx σ' H'
theorem pe_cut {e : Expr} {te : TE} (h : PE X e te) : PE X e (tCutE te) := ⟨fun pins s σ H Q I ⟨M, hm, hq⟩ => thn (h.run pins s σ H M I hm) fun v s1 ⟨x, H1, I1, r, q⟩ => ⟨x, H1, I1, r, hq x H1 q⟩⟩
theorem pt_cut {e : Expr} {tt : TT} (h : PT X e tt) : PT X e (tCutT tt) := ⟨fun pins s σ H Q I ⟨M, hm, hq⟩ => thn (h.run pins s σ H M I hm) fun b s1 ⟨H1, I1, q⟩ => ⟨H1, I1, hq b H1 q⟩⟩
theorem ps_cut {st : Stmt} {t : TS} (h : PS X st t) : PS X st (tCutS t) := by
  refine ⟨fun pins s σ H D I ⟨M, hm, hq⟩ => thn (h.run pins s σ H { D with nx := M } I hm) fun f s1 q => ?_⟩
  cases f with
  | next =>
    obtain ⟨σ', H', I', q⟩ := q
    exact ⟨σ', H', I', hq σ' H' q⟩
  | ret v => exact q
  | brk => exact q
  | cont => exact q
end
theorem ifF {c : Bool} {A B : Prop} (h : c = false) (k : B) : if c = true then A else B := by
  rw [h]
  exact iteF k
theorem ifT {c : Bool} {A B : Prop} (h : c = true) (k : A) : if c = true then A else B := by
  rw [h]
  exact iteT k
theorem ifB {c : Bool} {A B : Prop} (h1 : c = true → A) (h2 : c = false → B) : if c = true then A else B := by
  cases c with
  | true => exact iteT (h1 rfl)
  | false => exact iteF (h2 rfl)
/-! ### comprehensions without tests, the element without a trace -/
theorem lc_mapL {K : PySem.W.Frag} {a : Addr} {xs ys : List V} {j : Nat} {te : TE} {vs : List Nat} {σ : L2.St} {H1 : Hp} {D : Addr} {Qd : Hp → Prop} (hx : SqL K H1 a xs) (hD : H1 D = none) (hl : ys.length = xs.length) (hz : xs.length ≤ sizeLine)
    (hw : ∀ x, wipe ((wipe σ vs).set j (some x)) vs = wipe σ vs)
    (he : ∀ (i : Nat) x y H', Ex H1 H' → xs[i]? = some x → ys[i]? = some y → ∀ R : VK, (∀ H2, Ex H' H2 → R y H2) → te ((wipe σ vs).set j (some x)) H' R)
    (k : ∀ H', Ex H1 H' → H' D = some (.lst ys) → Qd H') :
    ∃ W : Nat → Nat → Hp → Prop, (∃ m, W 0 m (upd H1 D (.lst []))) ∧ ∀ i m H, W i m H →
      ((Itl K a).stop i H ∧ Qd H) ∨ ((Itl K a).go i H ∧ ∃ Nx : Hp → Prop, (∀ H', Nx H' → ∃ m', m' < m ∧ W (i + 1) m' H') ∧ ∀ x H', (Itl K a).yld i H x H' → gName j x (wipe σ vs) H' fun σ2 H2 => wipe σ2 vs = wipe σ vs ∧ tYes σ2 H2 fun b H3 =>
        if b = true then te σ2 H3 fun y H4 => ∃ acc, H4 D = some (.lst acc) ∧ acc.length < sizeLine ∧ Nx (upd H4 D (.lst (acc ++ [y]))) else Nx H3) := by
  refine lc_list (xs := xs) (fun i H' => Ex H1 H' ∧ H' D = some (.lst (ys.take i))) ⟨Evl.Ex.new hD, upd_same⟩ (fun i H' _ p => Evl.ex_l p.1 hx) (fun i x H' hi p => ?_) (fun H' p => k H' p.1 ?_)
  · have hi' : i < xs.length := (List.getElem?_eq_some_iff.mp hi).1
    have hy : ys[i]? = some (ys[i]'(by omega)) := List.getElem?_eq_getElem (by omega)
    refine ⟨hw x, ?_⟩
    show te ((wipe σ vs).set j (some x)) H' _
    refine he i x _ H' p.1 hi hy _ fun H2 e2 => ⟨ys.take i, e2 _ _ p.2, ?_, ?_⟩
    · rw [List.length_take]
      omega
    · refine ⟨Evl.Ex.mut (p.1.trans e2) hD, ?_⟩
      rw [upd_same, List.take_add_one, hy]
      rfl
  · have := p.2
    rw [List.take_of_length_le (by omega)] at this
    exact this
end My
set_option Elab.async false
set_option linter.all false
set_option maxRecDepth 100000
set_option maxHeartbeats 4000000
/-! Own errors whose __init__ says super().__init__("..") and keeps one field. -/
namespace My
open PySem PySem.Spec PyProof.Rows L2 NdefX
/-! ### the built-in __init__ bound to a new error, called -/
section
variable {prog : Program} {w : World} {A : Around} {E : Value → Shared → Prop} {h : Heap} {g : Array GenState} {d : Drawn} {t : Nat} {os : OsState}
variable {nm q : Str} {C N : Addr} {bs bm : List Value} {hdct : Bool} {sn : List Str} {sub : List Value} {ab : Bool} {col : Option Bool} {dd : Option Addr} {k0 k1 k2 k3 k5 : Option Value}
theorem call_mwV {u e t0 : Addr} {rest : List Value} {Q : Value → Shared → Prop}
    (hC : h.get? C = some (excClassObj nm q C N bs bm hdct sn sub ab col dd k0 k1 k2 k3 k5 "ValueError.__new__")) (he : h.get? e = some (HandSPX.excO C t0)) (hu : h.get? u = some (PySem.W.kxs_mw "ValueError.__init__" e)) (hrest : rest.length ≤ sizeLine)
    (hq : ∀ h' t1, (∀ b o, b ≠ e → h.get? b = some o → h'.get? b = some o) → h'.get? e = some (HandSPX.excO C t1) → Q .none ⟨h', g, d, t, os⟩) :
    wpAny (model prog w) A (call (.ref u) rest) Q E ⟨h, g, d, t, os⟩ := by
  refine wpAny_call (codeAny_of_tree ?_)
  show wpAny _ A.in1 (callAny (.ref u) ⟨rest, []⟩) _ _ _
  simp only [callAny]
  refine wpAny_bind (wpAny_load hu ?_)
  simp only [PySem.W.kxs_mw, show (Value.type "method-wrapper" == Value.type "method" || Value.type "method-wrapper" == Value.type "builtin_function_or_method" || Value.type "method-wrapper" == Value.type "method-wrapper") = true by decide, if_true]
  refine W.KFB.if_so (by decide) ?_
  refine wpAny_bind (ESX.check_bound F.excBase_ValueError hC he rfl ?_)
  refine wpAny_bind (wpAny_pure (wpAny_pure ?_))
  refine ⟨Code.quiet_builtin _ (by decide +kernel), codeAny_builtin F.excBase_ValueError.initEntry ?_⟩
  rw [Around.under_plainId F.excBase_ValueError.init.plain _]
  wp_walk
  refine hq _ h.objs.size (fun b o hb ho => ?_) ?_
  · rw [Heap.get?_update_other _ _ (Ne.symm hb)]
    exact Heap.get?_push_of_some _ ho
  · rw [Heap.get?_update_self _ (Heap.get?_push_of_some _ he) rfl]
    rfl
end
/-- what the written part says of the __init__ and of the class D that holds it -/
structure InitT (P : Program) (K : PySem.W.Frag) (mg : Str → Option Value) (st : Stmt) (qu : Str) (fI cc cda D : Addr) (fd : FuncData) : Prop where
  ex : ∃ (oc : Value) (od : Option Addr) (kV doc pm : Value) (an : Option Addr) (ct : Value) (osl : Array (Option Value)),
    fd = PySem.W.fnX "__init__" qu (defArgs st) (defBody st) (defScope st) [("__class__", cc)] .none kV doc pm an (.ref cda) ct ∧ K.lookup fI = some ⟨oc, od, .func fd, osl⟩
  code : PySem.W.codeIn K (.ref cda) qu = true
  cell : ∃ cl cld csl, K.lookup cc = some ⟨cl, cld, .cell (some (.ref D)), csl⟩
  file : ∃ (ccl : Value) (cdd : Option Addr) (ccs : Array (Option Value)) (vs : Array Value) (fl : Str) (tf : Tok), K.lookup cda = some ⟨ccl, cdd, .fields vs, ccs⟩ ∧ vs[2]? = some (.str fl tf) ∧ ((P.main.file : Str) == fl) = true
  cls : ∃ cdD, PySem.W.clsIn K D = some cdD
  sup : mg "super" = none
  top : (P.main.scope.names.lookup ("super" : Str)).isSome = false
  opq : PySem.W.nsIn K cStatics "thirdparty.any" = some none
/-- what it says of a class C of errors that has this __init__ -/
structure ErrC (K : PySem.W.Frag) (fI D C : Addr) : Prop where
  oex : OexC K C
  init : PySem.W.findIn K (.ref C) "__init__" = some (some (.ref fI))
  tI : PySem.W.typeIn K (.ref fI) = some (.type "function")
  nov : PySem.W.findIn K (.ref C) "value" = some none
  mro : PySem.W.mroIn K C (.ref D) = some true
  sin : PySem.W.ks_superIn K C D "__init__" = some (some (.builtin "ValueError.__init__"))
  sub : PySem.W.subIn K (.ref C) (.type "ValueError") = some true
  xf : XfC K C
/-- the first statement, super().__init__("..") -/
abbrev sSuper (p0 p1 p2 p3 p4 p5 : Pos) (x : Str) (j : Nat) : Stmt := .Expr (.Call (.Attribute (.Call (.Name "super" p0) [] [] p1) "__init__" p2) [.Constant (.str x) j p3] [] p4) p5
abbrev sKeep (p0 p1 p2 p3 : Pos) : Stmt := .Assign [.Attribute (.Name "self" p0) "value" p1] (.Name "value" p2) p3
/-- the promise: the new error at a has, behind it, its dict with the value -/
def spErr (K : PySem.W.Frag) (fI D : Addr) : Sp := fun vs H Q _ => ∃ (a C : Addr) (v : V), vs = [.ref a, v] ∧ ErrC K fI D C ∧ H a = some (exo a C none) ∧
  ∀ dx, H dx = none → dx ≠ a → Q .non (upd (upd H dx (exd dx [("value", v)])) a (exo a C (some dx)))
section
variable {P : Program} {w : World} {K : PySem.W.Frag} {mg : Str → Option Value} {base : Heap} {st : Stmt} {qu : Str} {fI cc cda D : Addr} {fd : FuncData}
theorem super_step {A : Around} {outer : List Env} {s0 : Shared} {H0 : Hp} {E0' : XK} {F : NF} {body : List Stmt} {p0 p1 p2 p3 p4 p5 : Pos} {x : Str} {j : Nat} {a C : Addr} {v : V} {H : Hp} {s : Shared} {ws : List (Option V)} {Q : Flow → Shared → Prop} {N : List Str}
    (T : InitT P K mg st qu fI cc cda D fd) (hF : F = ⟨"__init__", qu, defArgs st, defBody st, defScope st, [("__class__", cc)], cda⟩) (TC : ErrC K fI D C)
    (hks : (defScope st).names.lookup ("super" : Str) = some .globalImplicit) (hkc : (defScope st).names.lookup ("__class__" : Str) = some .free) (hka : (defScope st).names.lookup ("self" : Str) = some .local) (hk : (defScope st).kind = .function)
    (hp : ((defArgs st).posonlyargs ++ (defArgs st).args).head?.map (·.arg) = some ("self" : Str)) (hN : N[0]? = some ("self" : Str))
    {pl : Sem Bool} (hev : ∀ env : Env, eval (.Call (.Attribute (.Call (.Name "super" p0) [] [] p1) "__init__" p2) [.Constant (.str x) j p3] [] p4) env = (do
      let ov ← attributeBase (.Call (.Name "super" p0) [] [] p1) "__init__" env (eval (.Call (.Name "super" p0) [] [] p1) env)
      standAt p2.atName
      let (f, first) ← holding [ov] (getMethod ov "__init__" pl)
      callWith p4 f first (backTo p4 (starEach [.Constant (.str x) j p3] env)) []))
    (I : Inv (ncx CX0 P w K mg base N F fI A outer s0 H0 E0') [] (some (.ref a) :: some v :: ws) H s) (ha : H a = some (exo a C none))
    (h : ∀ s', Inv (ncx CX0 P w K mg base N F fI A outer s0 H0 E0') [] (some (.ref a) :: some v :: ws) H s' → Q .next s') :
    _root_.PySem.wpAt (model P w) (ncx CX0 P w K mg base N F fI A outer s0 H0 E0').A (.func body (ncx CX0 P w K mg base N F fI A outer s0 H0 E0').env) (exec (sSuper p0 p1 p2 p3 p4 p5 x j) (ncx CX0 P w K mg base N F fI A outer s0 H0 E0').env) Q (ncx CX0 P w K mg base N F fI A outer s0 H0 E0').xe s := by
  subst hF
  obtain ⟨oc, od, kV, doc, pm, an, ct, osl, efd, lk⟩ := T.ex
  obtain ⟨cl, cld, csl, hcell⟩ := T.cell
  obtain ⟨ccl, cdd, ccs, vs, fl, tf, hcode, hvs, hfile⟩ := T.file
  obtain ⟨cdD, hD⟩ := T.cls
  obtain ⟨nm, q, N', bs, bm, sn, sub, ab, col, dd, k0, k1, k2, k3, k5, hC, hbm⟩ := TC.oex.cls
  have hcl : PySem.W.clsIn K C = some { name := nm, bases := bs, mro := .ref C :: bm, ns := N', qualname := q, hasDict := true, slotNames := sn, subclasses := sub, abstract := ab, collection := col, hasDel := false } := by unfold PySem.W.clsIn; rw [hC] <;> rfl
  have KX : K.In s.heap := I.kIn
  obtain ⟨ar, har, harg⟩ : ∃ ar, ((defArgs st).posonlyargs ++ (defArgs st).args).head? = some ar ∧ ar.arg = ("self" : Str) := by
    cases e : ((defArgs st).posonlyargs ++ (defArgs st).args).head? with
    | none => rw [e] at hp; cases hp
    | some ar => rw [e] at hp; exact ⟨ar, rfl, Option.some.inj hp⟩
  obtain ⟨oD, hD1, hD2⟩ : ∃ oD, s.heap.get? D = some oD ∧ oD.data = .cls cdD := by
    unfold PySem.W.clsIn at hD
    split at hD
    · rename_i c d cd' sl ho
      cases hD
      exact ⟨_, KX _ _ ho, rfl⟩
    · cases hD
  obtain ⟨t1, hoe⟩ := exo_at I.hok ha
  -- the name self
  obtain ⟨m, hns, hl⟩ := id I.loc
  obtain ⟨u0, ru, lu⟩ := hl 0 "self" (.ref a) hN rfl (.inl hka)
  obtain rfl : u0 = Value.ref a := ru
  have hself : m "self" = some (.ref a) := by
    rcases lu with ⟨_, q⟩ | ⟨q, _⟩
    · exact q
    · have e : (defScope st).names.lookup ("self" : Str) = some .cell ∨ (defScope st).names.lookup ("self" : Str) = some .free := q
      rw [hka] at e
      rcases e with z | z <;> cases z
  obtain ⟨mb, hb1, hb2⟩ := I.mod.blt
  refine ks_wpAt_Expr_any (ks_wpAt_MethodCall ?_ (hev _)) (I.quiet) rfl
  refine ks_wpAt_super_base hks hkc (by decide) rfl (KX _ _ lk) (by rw [efd]) (ar := ar) har rfl (KX _ _ hcode) rfl hvs hfile T.top ?_
  refine PySem.W.ks_loadName_global hk hks (Calls.loadGlobal_builtin (I.mod.glob.keeps I.bk) T.sup (hb1.keeps I.bk) ((hb2 _ (by decide)).trans (by decide +kernel)) ⟨rfl, ?_⟩)
  refine wpAny_loadName_free hk hkc rfl ⟨_, KX _ _ hcell, rfl⟩ ?_
  rw [harg]
  refine wpAny_loadName_local hk hka hns hself ?_
  refine ks_wpAny_isType_cls hD1 hD2 ⟨rfl, ?_⟩
  obtain ⟨hp0, g, d, t, os⟩ := s
  refine ks_wpAny_call_super hD1 hD2 hoe rfl (fun c e => by cases e) (PySem.W.looks_mroIn KX TC.mro) (fun h1 e1 k1' => ?_)
  have I1 : Inv (ncx CX0 P w K mg base N ⟨"__init__", qu, defArgs st, defBody st, defScope st, [("__class__", cc)], cda⟩ fI A outer s0 H0 E0') [] (some (.ref a) :: some v :: ws) H ⟨h1, g, d, t, os⟩ := I.kept (h' := h1) (t' := t) k1'
  have KX1 : K.In h1 := I1.kIn
  have hoe1 := k1' _ _ hoe
  have hnaC : a ≠ C := by
    rintro rfl
    have z := KX _ _ hC
    rw [hoe] at z
    cases z
  have hI1 : PySem.W.Looks (model P w) h1 (isInstance (.ref a) (.type "ValueError")) true := (show PySem.W.InstAt h1 a _ C none from ⟨hoe1, rfl, rfl, trivial⟩).type.andThen (PySem.W.looks_subIn KX1 TC.sub)
  have hsin := TC.sin
  unfold PySem.W.ks_superIn at hsin
  rw [hcl, Option.bind_some] at hsin
  refine PySem.W.kxs_getMethod PySem.W.kxs_ValueError e1 (PySem.W.looks_opaque KX1 T.opq) (l₀ := .ref C :: bm) ?_ rfl KX1 hsin hI1 hnaC (by decide) ?_
  · exact fun A Q E s k q => wpAny_bind ((PySem.W.looks_clsIn KX1 hcl) A _ E s k (wpAny_pure q))
  have I2 : Inv (ncx CX0 P w K mg base N ⟨"__init__", qu, defArgs st, defBody st, defScope st, [("__class__", cc)], cda⟩ fI A outer s0 H0 E0') [] (some (.ref a) :: some v :: ws) H ⟨h1.push (PySem.W.kxs_mw "ValueError.__init__" a), g, d, t + 1, os⟩ := I1.kept (t' := t + 1) fun b o e => Heap.get?_push_of_some _ e
  have hu2 : (h1.push (PySem.W.kxs_mw "ValueError.__init__" a)).get? h1.objs.size = some (PySem.W.kxs_mw "ValueError.__init__" a) := Heap.get?_push_at rfl rfl
  have hoe2 : (h1.push (PySem.W.kxs_mw "ValueError.__init__" a)).get? a = _ := Heap.get?_push_of_some _ hoe1
  show wpAny _ _ (callWith p4 (.ref h1.objs.size) [] (backTo p4 (starEach [.Constant (.str x) j p3] _)) []) _ _ _
  refine PySem.W.kxs_callWith (i := "ValueError.__init__") (x := a) rfl (PySem.Calls.evalArgs_plain ?_)
  refine args_cons (Calls.Constant_str (args_nil ⟨hu2, ?_⟩)) rfl
  have I3 := I2.tok (t + 1 + 1)
  refine call_mwV (KX1.keeps (fun b o e => Heap.get?_push_of_some _ e) _ _ hC) hoe2 hu2 (by show 1 ≤ sizeLine; decide) (fun h' t' k he => ?_)
  have J := I3.write (t' := t + 1 + 1) (x := a) (e := a) (o := exo a C none) (by rw [ha]; exact True.intro) (.inl rfl) k ⟨_, he⟩ (exo_ok he)
  have eu : upd H a (exo a C none) = H := by
    funext b
    by_cases hb : b = a
    · rw [hb, upd_same, ha]
    · rw [upd_ne hb]
  rw [eu] at J
  exact h _ J
theorem ok_err {p0 p1 p2 p3 p4 p5 q0 q1 q2 q3 : Pos} {x : Str} {j : Nat} {pl : Sem Bool} (T : InitT P K mg st qu fI cc cda D fd) (S : NScope ["self", "value", "__class__"] ["self", "value"] ["__class__"] (defScope st))
    (hbd : defBody st = [sSuper p0 p1 p2 p3 p4 p5 x j, sKeep q0 q1 q2 q3]) (hks : (defScope st).names.lookup ("super" : Str) = some .globalImplicit)
    (hp : ((defArgs st).posonlyargs ++ (defArgs st).args).head?.map (·.arg) = some ("self" : Str))
    (hev : ∀ env : Env, eval (.Call (.Attribute (.Call (.Name "super" p0) [] [] p1) "__init__" p2) [.Constant (.str x) j p3] [] p4) env = (do
      let ov ← attributeBase (.Call (.Name "super" p0) [] [] p1) "__init__" env (eval (.Call (.Name "super" p0) [] [] p1) env)
      standAt p2.atName
      let (f, first) ← holding [ov] (getMethod ov "__init__" pl)
      callWith p4 f first (backTo p4 (starEach [.Constant (.str x) j p3] env)) [])) : FnOk P w K mg base CX0 1 fI fd ["self", "value"] (spErr K fI D) := by
  refine ⟨fun vs H Q E h => by obtain ⟨a, C, v, rfl, _⟩ := h; rfl, fun A outer s H args us vs Q E hr e0 hb r hsp => ?_⟩
  have KX : K.In s.heap := e0.mod.kin.keeps fun b o e => (e0.bs b o e).1
  have lim : s.heap.NoLimit := e0.mod.nolimit.keeps fun b o e => (e0.bs b o e).1
  obtain ⟨oc, od, kV, doc, pm, an, ct, osl, efd, lk⟩ := id T.ex
  obtain ⟨cl, cld, csl, hcell⟩ := T.cell
  obtain ⟨a, C, v, ev, TC, ha, k⟩ := hsp
  subst ev
  have hl : [V.ref a, v].length = (["self", "value"] : List Str).length := rfl
  have hC : CellsAt [(("__class__" : Str), cc)] ["__class__"] [some (.ref D)] s.heap H := by
    have hb := e0.mod.kin _ _ hcell
    have hs := e0.bs _ _ hb
    have key : ∀ {y : Str} {c : Addr}, ([(("__class__" : Str), cc)] : List (Str × Addr)).lookup y = some c → c = cc ∧ y = "__class__" := fun {y c} e => by
      have z := PySem.mem_of_lookup e
      have z' : (y, c) = (("__class__" : Str), cc) := by simpa using z
      exact ⟨congrArg Prod.snd z', congrArg Prod.fst z'⟩
    refine ⟨rfl, fun y c e => ?_, fun y z c e1 e2 => (key e1).2.trans (key e2).2.symm, fun i y e => ?_⟩
    · obtain ⟨rfl, rfl⟩ := key e
      exact ⟨hs.2, _, _, hs.1, rfl⟩
    · cases i with
      | zero =>
        have e' : ("__class__" : Str) = y := Option.some.inj e
        subst e'
        refine ⟨cc, by simp [List.lookup], fun u hu => ?_⟩
        have hu' : some (some (V.ref D)) = some (some u) := hu
        cases hu'
        exact ⟨.ref D, rfl, _, hs.1, rfl⟩
      | succ i => simp at e
  have hfd : (K.lookup fI) = some ⟨oc, od, .func (PySem.W.fnX "__init__" qu (defArgs st) (defBody st) (defScope st) [("__class__", cc)] .none kV doc pm an (.ref cda) ct), osl⟩ := by rw [← efd]; exact lk
  refine codeAny_call_function hr.depth (KX _ _ hfd) rfl S.co S.gen rfl (PySem.W.codeRec_of KX T.code) ?_
  have hb' := hb
  rw [efd] at hb'
  refine hb' _ _ _ _ ?_
  refine wpAny_newFunctionEnv S.nocell (fun ⟨n, _⟩ hy => S.par n (List.of_mem_zip hy).1) (fun h₁ hns hsb => ⟨lim.fresh _ hsb, ?_⟩) S.kind
  have kp : ∀ b o, s.heap.get? b = some o → h₁.get? b = some o := fun b o e => hsb.extBut b o (Nat.ne_of_lt (Heap.lt_size e)) (Heap.get?_push_of_some _ e)
  have I : Inv (ncx CX0 P w K mg base ["self", "value", "__class__"] ⟨"__init__", qu, defArgs st, defBody st, defScope st, [("__class__", cc)], cda⟩ fI A outer s H E) [] (startF ["self", "value", "__class__"] [V.ref a, v] [some (.ref D)]) H { s with heap := h₁, toks := s.toks + ((["self", "value"] : List Str).zip us).length } :=
    inv_startN (F := ⟨"__init__", qu, defArgs st, defBody st, defScope st, [("__class__", cc)], cda⟩) S hr.hd e0 hl r hC hns kp
  refine ks_codeAny_funcAt (env := (ncx CX0 P w K mg base ["self", "value", "__class__"] ⟨"__init__", qu, defArgs st, defBody st, defScope st, [("__class__", cc)], cda⟩ fI A outer s H E).env) (body := defBody st) ?_
  rw [show execs (defBody st) = execs [sSuper p0 p1 p2 p3 p4 p5 x j, sKeep q0 q1 q2 q3] from congrArg execs hbd]
  refine ks_wpAt_execs_cons (super_step T rfl TC hks (S.frk _ (by simp)) (S.par _ (by simp)) S.kind hp rfl hev I ha fun s' I' => ?_)
  have hpst : PSs (ncx CX0 P w K mg base ["self", "value", "__class__"] ⟨"__init__", qu, defArgs st, defBody st, defScope st, [("__class__", cc)], cda⟩ fI A outer s H E) [sKeep q0 q1 q2 q3] _ :=
    pss_one (ps_ost (pe_var (i := 0) rfl (.inl (S.par _ (by simp)))) (pe_var (i := 1) rfl (.inl (S.par _ (by simp)))))
  have run := hpst.run [] s' _ H { nx := fun _ H' => Q .non H', rt := Q } I' ⟨_, rfl, _, rfl, a, C, rfl, TC.oex, TC.nov, .inl ⟨ha, k⟩⟩
  refine wpAt_of_wpAny (wpAny_mono run (fun fl s2 hs => ?_) fun e s2 hs => hs)
  have fin : ∀ {σ' : L2.St} {H' : Hp} {v : V} {u : Value}, Inv (ncx CX0 P w K mg base ["self", "value", "__class__"] ⟨"__init__", qu, defArgs st, defBody st, defScope st, [("__class__", cc)], cda⟩ fI A outer s H E) [] σ' H' s2 → L2.RelV v u → Q v H' → CE outer P w H s Q u s2 :=
    fun {σ' H' v u} J rv q => ⟨v, H', J.os, J.bare, J.base, J.hok, rv, q⟩
  cases fl with
  | ret u =>
    obtain ⟨v, σ', H', J, rv, q⟩ := hs
    exact fin J rv q
  | next =>
    obtain ⟨σ', H', J, q⟩ := hs
    exact fin (v := V.non) (u := Value.none) J rfl q
  | brk =>
    obtain ⟨_, _, _, q⟩ := hs
    exact False.elim q
  | cont =>
    obtain ⟨_, _, _, q⟩ := hs
    exact False.elim q
end
/-! ### raise X(e) -/
/-- an error of the class at C with the value v is what is wanted -/
def Raised (C : Addr) (v : V) (H : Hp) (E : XK) : Prop := ∀ d H', H d = none → Ex H H' → H' d = some (.xd [("value", v)]) → E (.ref C) (some d) H'
def tErr (C : Addr) (ta : TA) : L2.St → Hp → XK → Prop := fun σ H Q => ta σ H fun vs H1 => ∃ v, vs = [v] ∧ Raised C v H1 Q
section
variable {X : Cx} {K : PySem.W.Frag} {fI D C : Addr} {fd : FuncData} {x : Str} {p pos : Pos} {e : Expr} {ta : TA}
theorem pmk_err (F : FnOk X.prog X.w X.K X.mg X.base CX0 1 fI fd ["self", "value"] (spErr X.K fI D)) (hb : Binds X.K fd ["self", "value"] []) (TC : ErrC X.K fI D C) (hr : Room 2 X.A) (hg : Gl X x) (hm : X.mg x = some (.ref C)) (ha : PA X [e] ta)
    (hdb : (x == ("__debug__" : Str)) = false := by decide) (he : starEach [e] X.env = (false, eval e X.env) :: starEach [] X.env := by rfl) (hpl : (backTo pos (starEach [] X.env)).any (·.1) = false := by rfl) :
    PMk X (.Call (.Name x p) [e] [] pos) (tErr C ta) := fun pins s σ H Q I h => by
  refine pmk_oex (sp := spErr X.K fI D) (dvs := []) TC.oex TC.init TC.tI F hr hb .nil pass0 hg hm (pa_cut ha) hdb he hpl pins s σ H Q I ⟨_, h, fun vs H1 z => ?_⟩
  obtain ⟨v, rfl, k⟩ := z
  refine ⟨by show 1 ≤ 1000; decide, fun a hn => ⟨a, C, v, rfl, TC, upd_same, fun dx hdx ne => ⟨rfl, dx, [("value", v)], upd_same, by rw [upd_ne ne, upd_same], ?_, ?_⟩⟩⟩
  · rw [upd_ne ne] at hdx
    exact hdx
  · rw [upd_ne ne] at hdx
    refine k dx _ hdx (fun b o hb => ?_) upd_same
    have n1 := ne_of_none hb hdx
    have n2 := ne_of_none hb hn
    rw [upd_ne n1, del_ne n2, upd_ne n2, upd_ne n1, upd_ne n2]
    exact hb
end
/-- calls of a def that may raise, in one that may -/
theorem passX {P : Program} {w : World} {K : PySem.W.Frag} {mg : Str → Option Value} {base : Heap} {N : List Str} {qual : Str} {scope : Scope} {f : Addr} {cd : Value} {A : Around} {outer : List Env} {s : Shared} {H : Hp} {E : XK} :
    Passes (L2.CX P w) (cxOf (L2.CX P w) P w K mg base N qual scope f cd A outer s H E) E := passes_call (X := cxOf (L2.CX P w) P w K mg base N qual scope f cd A outer s H E) (takes_of rfl rfl rfl rfl) (fun _ _ _ _ h => h)
/-! ### what the head's facts give -/
theorem along_ve (K : PySem.W.Frag) : PySem.W.alongIn K "__init__" PySem.HandSPX.veTail = some (some (.builtin "ValueError.__init__")) := by kernel_rfl
section
variable {K : PySem.W.Frag} {nm q : Str} {C D N : Addr} {bs : List Value} {sn : List Str} {sub : List Value} {ab : Bool} {col : Option Bool} {dd : Option Addr} {k0 k1 k2 k3 k5 : Option Value}
theorem sup_self (h : K.lookup C = some (excClassObj nm q C N bs PySem.HandSPX.veTail true sn sub ab col dd k0 k1 k2 k3 k5 "ValueError.__new__")) (e : C = D) : PySem.W.ks_superIn K C D "__init__" = some (some (.builtin "ValueError.__init__")) := by
  subst e
  unfold PySem.W.ks_superIn PySem.W.clsIn
  rw [h]
  show PySem.W.alongIn K "__init__" (((Value.ref C :: PySem.HandSPX.veTail).dropWhile (· != .ref C)).drop 1) = _
  rw [ESX.drop_own]
  exact along_ve K
theorem sup_child (h : K.lookup C = some (excClassObj nm q C N bs (.ref D :: PySem.HandSPX.veTail) true sn sub ab col dd k0 k1 k2 k3 k5 "ValueError.__new__")) (e : (C == D) = false) : PySem.W.ks_superIn K C D "__init__" = some (some (.builtin "ValueError.__init__")) := by
  unfold PySem.W.ks_superIn PySem.W.clsIn
  rw [h]
  show PySem.W.alongIn K "__init__" (((Value.ref C :: Value.ref D :: PySem.HandSPX.veTail).dropWhile (· != .ref D)).drop 1) = _
  have ne : ((Value.ref C : Value) != .ref D) = true := by
    have : C ≠ D := by simpa using e
    simp [this]
  rw [List.dropWhile_cons, if_pos ne, ESX.drop_own]
  exact along_ve K
theorem exm_gen {S S' : Addr} {b : Bool} (h1 : PySem.W.subIn K (.ref S') (.type "BaseException") = some true) (h2 : PySem.W.isClsIn K S' = true) (h3 : PySem.W.typeIn K (.ref S') = some (.type "type")) (h4 : PySem.W.subIn K (.ref S) (.ref S') = some b) :
    PySem.W.exmOne K (.ref S) (.ref S') = some b := by
  have e1 : (PySem.W.subIn K (.ref S') (.type "BaseException") == some true) = true := by rw [h1] <;> rfl
  have e2 : ((PySem.W.clsIn K S').isSome && PySem.W.typeIn K (.ref S') == some (.type "type")) = true := by
    have h2' : (PySem.W.clsIn K S').isSome = true := h2
    rw [h2', h3] <;> rfl
  show (if (PySem.W.subIn K (.ref S') (.type "BaseException") == some true) = true then (if ((PySem.W.clsIn K S').isSome && PySem.W.typeIn K (.ref S') == some (.type "type")) = true then PySem.W.subIn K (.ref S) (.ref S') else none) else none) = some b
  rw [if_pos e1, if_pos e2]
  exact h4
end
end My
set_option Elab.async false
set_option linter.all false
set_option maxRecDepth 100000
set_option maxHeartbeats 4000000
/-! Further rules: sum of a tuple, len of a range, calls by keywords of a def that may raise. -/
namespace My
open PySem PySem.Spec PyProof.Rows L2
section
variable {prog : Program} {w : World} {A : Around} {E : Value → Shared → Prop} {s : Shared} {l : Addr} {its : List Value} {ns : List Int} {Q : Value → Shared → Prop}
theorem sum_tupRaw (hh : A.handled = none) (hl : s.heap.IsTuple l its.toArray) (hi : IntsAre its ns)
    (h : ∀ h' tk t', (∀ b o, s.heap.get? b = some o → h'.get? b = some o) → Q (.int ns.sum t') { s with heap := h', toks := tk }) : wpAny (model prog w) A (call (.builtin "sum") [.ref l]) Q E s := by
  obtain ⟨xs, e⟩ := hi.allInts.items
  have hn : numsOf (intItems xs).toList = ns := by rw [← e]; exact hi.numsOf
  rw [nums_intItems] at hn
  rw [e] at hl
  have hlt : l < s.heap.objs.size := by obtain ⟨_, e, _⟩ := hl; exact Heap.lt_size e
  refine call_sum_walkG (wpAny_pyIter_tuple hl ?_)
  refine ⟨_, _, _, _, _, _, numAt xs, rfl, Walks.tuple (A := A.in1) hh _ l (Nat.ne_of_lt hlt) (intItems xs), ⟨⟨_, Heap.get?_push_size _ rfl, rfl, rfl⟩, ?_⟩, (fun b hb => ?_), (fun _ _ => intItems_at), fun h' tk t' hk => ?_⟩
  · obtain ⟨o, e1, e2⟩ := hl
    exact ⟨o, Heap.get?_push_of_some _ e1, e2⟩
  · show b < (s.heap.push _).objs.size
    rw [Heap.size_push]
    rcases List.mem_cons.mp hb with rfl | hb
    · exact Nat.lt_succ_self _
    · rcases List.mem_cons.mp hb with rfl | hb
      · exact Nat.lt_succ_of_lt hlt
      · cases hb
  · have := h h' tk t' (fun b o e => hk b o (fun hm => by
      have z : b = s.heap.objs.size := by simpa using hm
      exact Nat.ne_of_lt (Heap.lt_size e) z) (Heap.get?_push_of_some _ e))
    have e2 : preSum (numAt xs) (intItems xs).size = ns.sum := by
      rw [preSum_eq, List.take_of_length_le (by simp [intItems]), hn]
    rw [e2]
    exact this
end
section
variable {X : Cx}
def rSumT (K : PySem.W.Frag) : List V → Hp → VK → Prop := fun vs H Q => ∃ (a : Addr) (ns : List Int), vs = [V.ref a] ∧ SqT K H a (ns.map V.int) ∧ Q (.int ns.sum) H
theorem cr_sumT (hc : X.calm = true) : CallR X (.builtin "sum") (rSumT X.K) := by
  intro pins s σ H vs us Q I r h
  obtain ⟨a, ns, rfl, hs, q⟩ := h
  obtain ⟨its, rv, hl, _⟩ := I.tuple hs
  rw [Vals.ref1 r]
  exact sum_tupRaw (I.ok.hd hc) hl rv.ints fun h' tk t' hk => ⟨.int _, H, I.kept hk, ⟨_, rfl⟩, q⟩
/-- len(range(a, b)) -/
def rLenR : List V → Hp → VK → Prop := fun vs H Q => ∃ (p : Addr) (lo hi : Int), vs = [V.ref p] ∧ H p = some (.rng lo hi) ∧ hi - lo < 2 ^ 62 ∧ Q (.int (if lo < hi then hi - lo else 0)) H
theorem call_lenR : CallR X (.builtin "len") rLenR := by
  intro pins s σ H vs us Q I r h
  obtain ⟨p, lo, hi, rfl, hp, hz, q⟩ := h
  rw [Vals.ref1 r]
  obtain ⟨t, u, v, ho⟩ := (show ObjOk X.prog X.w H s.heap p (.rng lo hi) from I.hok p _ hp)
  have e : ((if lo < hi then hi - lo else 0 : Int)) = (((if lo < hi then hi - lo else 0 : Int)).toNat : Int) := by split <;> omega
  refine call_len_range (n := ((if lo < hi then hi - lo else 0 : Int)).toNat) (a := lo) (b := hi) (c := 1) ho ?_ ?_ ?_
  · rw [rangeSize_one, ← e]
  · rw [← e]
    split <;> omega
  · rw [← e]
    exact ⟨.int _, H, I.tok _, ⟨_, rfl⟩, q⟩
def rRangeG : List V → Hp → VK → Prop := fun vs H Q => ∃ i j, vs = [V.int i, V.int j] ∧ New (.rng i j) H Q
theorem cr_rangeG : CallR X (.type "range") rRangeG := fun pins s σ H xs us Q I r ⟨i, j, h1, k⟩ => cr_range2 pins s σ H xs us Q I r ⟨i, j, h1, fun p hp => k.go p hp⟩
end
section
variable {X : Cx} {CX : CXT} {k : Nat} {f C : Addr} {fd : FuncData} {ps ks : List Str} {sp : Sp} {E : L2.St → XK} {x m : Str} {p pos apos kpos : Pos} {kws : List Keyword} {tk : TA} {g : List Value → List Value → List Value} {gV : List V → List V → List V}
theorem run_fnkS {pins : List (Addr × Obj)} {σ : L2.St} {H : Hp} {s : Shared} {Q : VK} {us ws : List Value} {vs zs : List V} (F : FnOk X.prog X.w X.K X.mg X.base CX k f fd ps sp) (hr : Room k X.A) (hb : KBinds X.K fd ps ks g gV) (hx : PassesAt CX X σ (E σ))
    (I : Inv X pins σ H s) (r : Vals vs us) (rz : Vals zs ws) (h : sp (gV vs zs) H Q (E σ)) : wpAny (model X.prog X.w) X.A (call (.ref f) us (ks.zip ws)) (EP X pins σ Q) X.xe s := by
  have r2 := hb.rel r rz
  have hl : (g us ws).length = ps.length := by rw [← r2.length]; exact F.len _ _ _ _ h
  refine wpAny_call (codeAny_mono (F.run X.A X.stack s H ⟨us, ks.zip ws⟩ (g us ws) (gV vs zs) Q (E σ) hr I.env0 (hb.to s us ws I.kIn hl) r2 h) fun r s' hq => ?_)
  cases r with
  | error e => exact hx pins H s e s' I hq
  | ok fl =>
    cases fl with
    | ret u => exact I.after hq
    | next => exact False.elim hq
    | brk => exact False.elim hq
    | cont => exact False.elim hq
def tCallKS (sp : Sp) (gV : List V → List V → List V) (E : L2.St → XK) (t tk : TA) : TE := fun σ H Q => t σ H fun vs H1 => tk σ H1 fun zs H2 => sp (gV vs zs) H2 Q (E σ)
/-- f(k = v, ..) in a try -/
theorem pe_callK0S (F : FnOk X.prog X.w X.K X.mg X.base CX k f fd ps sp) (hr : Room k X.A) (hg : Gl X x) (hm : X.mg x = some (.ref f)) (hk : PySem.W.keepIn X.K (.ref f) = true) (hb : KBinds X.K fd ps ks g gV) (hx : ∀ σ, PassesAt CX X σ (E σ))
    (hkw : PK X kws tk) (hall : (backToKw pos (keywordEach kws X.env)).all (·.1.isSome) = true := by rfl) (hks : (backToKw pos (keywordEach kws X.env)).filterMap (·.1) = ks := by rfl)
    (hdb : (x == ("__debug__" : Str)) = false := by decide)
    (hpl : ((backTo pos (starEach [] X.env)).any (·.1) || (backToKw pos (keywordEach kws X.env)).any (·.1.isNone)) = false := by rfl) :
    PE X (.Call (.Name x p) [] kws pos) (tCallKS sp gV E tNil tk) := by
  refine ⟨fun pins s σ H Q I h => ?_⟩
  refine wpAny_Call_Name_kw (ld_glob I hg hm ?_ hdb)
  refine PySem.W.callWith_KW0 (h₀ := X.base) I.ok.mod.kin hk hall ?_ hpl
  refine thn (hkw.run pos pins s σ H _ I h) fun ws s2 ⟨zs, H2, I2, rz, q2⟩ => ⟨I2.kIn, ?_⟩
  rw [hks]
  exact run_fnkS (us := []) (vs := []) F hr hb (hx σ) I2 .nil rz q2
variable {e : Expr} {es : List Expr} {t : TA}
/-- f(e, .., k = v, ..) in a try -/
theorem pe_callKS (F : FnOk X.prog X.w X.K X.mg X.base CX k f fd ps sp) (hr : Room k X.A) (hg : Gl X x) (hm : X.mg x = some (.ref f)) (hk : PySem.W.keepIn X.K (.ref f) = true) (hb : KBinds X.K fd ps ks g gV) (hx : ∀ σ, PassesAt CX X σ (E σ))
    (ha : PA X (e :: es) t) (hkw : PK X kws tk) (hall : (backToKw pos (keywordEach kws X.env)).all (·.1.isSome) = true := by rfl) (hks : (backToKw pos (keywordEach kws X.env)).filterMap (·.1) = ks := by rfl)
    (hdb : (x == ("__debug__" : Str)) = false := by decide) (he : starEach (e :: es) X.env = (false, eval e X.env) :: starEach es X.env := by rfl)
    (hpl : ((backTo pos (starEach (e :: es) X.env)).any (·.1) || (backToKw pos (keywordEach kws X.env)).any (·.1.isNone)) = false := by rfl) :
    PE X (.Call (.Name x p) (e :: es) kws pos) (tCallKS sp gV E t tk) := by
  refine ⟨fun pins s σ H Q I h => ?_⟩
  refine wpAny_Call_Name_kw (ld_glob I hg hm ?_ hdb)
  refine PySem.W.callWith_KW (h₀ := X.base) I.ok.mod.kin hk hall (thn (ha.run pos pins s σ H _ I h) fun us s1 ⟨vs, H1, I1, r, q⟩ => ?_) hpl he
  refine thn (hkw.run pos pins s1 σ H1 _ I1 q) fun ws s2 ⟨zs, H2, I2, rz, q2⟩ => ⟨I2.kIn, ?_⟩
  rw [hks]
  exact run_fnkS F hr hb (hx σ) I2 r rz q2
end
/-! rules within a comprehension: what may be kept by name is that of the def -/
section
variable {X : Cx} {K : PySem.W.Frag}
theorem crK {f : Value} {r : PySem.W.Frag → List V → Hp → VK → Prop} (h : X.K = K) (c : CallR X f (r X.K)) : CallR X f (r K) := h ▸ c
theorem ixK {r : PySem.W.Frag → R2} (h : X.K = K) (c : IxR X (r X.K)) : IxR X (r K) := h ▸ c
theorem opK {f : Value → Value → Sem Value} {r : PySem.W.Frag → R2} (h : X.K = K) (c : OpR X f (r X.K)) : OpR X f (r K) := h ▸ c
def rLenSq (K : PySem.W.Frag) : List V → Hp → VK → Prop := fun xs H Q => ∃ p ys, xs = [.ref p] ∧ (SqL K H p ys ∨ SqT K H p ys) ∧ Q (.int ys.length) H
end
end My
set_option Elab.async false
set_option linter.all false
set_option maxRecDepth 100000
set_option maxHeartbeats 4000000
/-! Defs under which repr may be asked: no repr is under way. -/
namespace My
open PySem PySem.Spec PyProof.Rows L2
structure FnOkG (P : Program) (w : World) (K : PySem.W.Frag) (mg : Str → Option Value) (base : Heap) (CX : CXT) (k : Nat) (f : Addr) (fd : FuncData) (ps : List Str) (sp : Sp) : Prop where
  len : ∀ vs H Q E, sp vs H Q E → vs.length = ps.length
  run : ∀ (A : Around) (outer : List Env) (s : Shared) (H : Hp) (args : Args) (us : List Value) (vs : List V) (Q : VK) (E : XK), Room k A → A.guards = some [] → Env0 P w K mg base A outer s H → BindsTo s fd args (ps.zip us) → Vals vs us → sp vs H Q E →
    codeAny (model P w) A (.call (.ref f) args) (CR CX outer P w H s Q E) s
theorem fn_ofG {CX : CXT} {P : Program} {w : World} {K : PySem.W.Frag} {mg : Str → Option Value} {base : Heap} {k : Nat} {f : Addr} {name qual : Str} {params : Arguments} {body : List Stmt} {scope : Scope} {dV kV doc pm cdv ct oc : Value} {an od : Option Addr}
    {osl : Array (Option Value)} {N ps : List Str} {sp : Sp} (lk : K.lookup f = some ⟨oc, od, .func (PySem.W.fnOf name qual params body scope dV kV doc pm an cdv ct), osl⟩) (hcd : PySem.W.codeIn K cdv qual = true) (S : FnScope N ps scope)
    (len : ∀ vs H Q E, sp vs H Q E → vs.length = ps.length)
    (hbody : ∀ (A : Around) (outer : List Env) (s : Shared) (H : Hp) (vs : List V) (Q : VK) (E : XK), Room k (A.deeper (envOfC qual scope s.heap.objs.size f cdv)) → A.guards = some [] → sp vs H Q E →
      ∃ t, PSs (cxOf CX P w K mg base N qual scope f cdv A outer s H E) body t ∧ t { nx := fun _ H' => Q .non H', rt := Q } (start N vs) H) :
    FnOkG P w K mg base CX (k + 1) f (PySem.W.fnOf name qual params body scope dV kV doc pm an cdv ct) ps sp := by
  refine ⟨len, fun A outer s H args us vs Q E hr hg e0 hb r hsp => ?_⟩
  have hl := len _ _ _ _ hsp
  have KX : K.In s.heap := e0.mod.kin.keeps fun b o e => (e0.bs b o e).1
  have lim : s.heap.NoLimit := e0.mod.nolimit.keeps fun b o e => (e0.bs b o e).1
  refine codeAny_call_function hr.depth (KX _ _ lk) rfl S.co S.gen rfl (PySem.W.codeRec_of KX hcd) (hb _ _ _ _ ?_)
  refine wpAny_newFunctionEnv_cells S.kind (fun ⟨n, v⟩ hy => ?_) fun env he s1 x => ?_
  · rcases S.par n (List.of_mem_zip hy).1 with q | q
    · exact .inl q
    · exact .inr ⟨q, PySem.W.cellsFrom_some _ _ _ (.inl q)⟩
  subst he
  refine ⟨lim.keeps x.toInCall.keep, codeAny_func ?_⟩
  obtain ⟨t, ht, hq⟩ := hbody A outer s H vs Q E (hr.deeper _) hg hsp
  have I : Inv (cxOf CX P w K mg base N qual scope f cdv A outer s H E) [] (start N vs) H s1 := inv_start S hr.hd e0 hl r x
  refine wpAny_mono (ht.run [] s1 (start N vs) H _ I hq) (fun fl s' hs => ?_) fun e s' hs => hs
  cases fl with
  | ret u =>
    obtain ⟨v, σ', H', J, rv, q⟩ := hs
    exact ⟨v, H', J.os, J.bare, J.base, J.hok, rv, q⟩
  | next =>
    obtain ⟨σ', H', J, q⟩ := hs
    exact ⟨.non, H', J.os, J.bare, J.base, J.hok, rfl, q⟩
  | brk =>
    obtain ⟨_, _, _, q⟩ := hs
    exact False.elim q
  | cont =>
    obtain ⟨_, _, _, q⟩ := hs
    exact False.elim q
section
variable {P : Program} {w : World} {K : PySem.W.Frag} {mg : Str → Option Value} {base : Heap}
theorem _root_.L2.Fun.okG {x qual : Str} {st : Stmt} {f : Addr} {fd : FuncData} {N ps : List Str} {k : Nat} {sp : Sp} (F : Fun K x qual st f fd) (S : FnScope N ps (defScope st)) (len : ∀ vs H Q E, sp vs H Q E → vs.length = ps.length)
    (hbody : ∀ (cdv : Value) (A : Around) (outer : List Env) (s : Shared) (H : Hp) (vs : List V) (Q : VK) (E : XK), Room k (A.deeper (envOfC qual (defScope st) s.heap.objs.size f cdv)) → A.guards = some [] → sp vs H Q E →
      ∃ t, PSs (cxOf CX0 P w K mg base N qual (defScope st) f cdv A outer s H E).nox (defBody st) t ∧ t { nx := fun _ H' => Q .non H', rt := Q } (start N vs) H) : FnOkG P w K mg base CX0 (k + 1) f fd ps sp := by
  obtain ⟨oc, od, kV, doc, pm, an, cdv, ct, osl, rfl, lk, hcd⟩ := F.ex
  refine fn_ofG lk hcd S len fun A outer s H vs Q E hr hg hsp => ?_
  obtain ⟨t, h, q⟩ := hbody cdv A outer s H vs Q E hr hg hsp
  exact ⟨t, h.nox, q⟩
end
section
variable {X : Cx} {CX : CXT} {k : Nat} {f : Addr} {fd : FuncData} {ps : List Str} {sp : Sp} {dvs : List V} {ds : List Value} {E : XK} {x : Str} {p pos : Pos} {e : Expr} {es : List Expr} {t : TA}
theorem pe_callG (F : FnOkG X.prog X.w X.K X.mg X.base CX k f fd ps sp) (hr : Room k X.A) (gd : X.A.guards = some []) (hg : Gl X x) (hm : X.mg x = some (.ref f)) (hk : PySem.W.keepIn X.K (.ref f) = true) (hb : Binds X.K fd ps ds) (hd : Vals dvs ds) (hx : Passes CX X E)
    (ha : PA X (e :: es) t) (hdb : (x == ("__debug__" : Str)) = false := by decide) (he : starEach (e :: es) X.env = (false, eval e X.env) :: starEach es X.env := by rfl) (hpl : (backTo pos (starEach es X.env)).any (·.1) = false := by rfl) :
    PE X (.Call (.Name x p) (e :: es) [] pos) (tCall sp dvs E t) := by
  refine ⟨fun pins s σ H Q I h => ?_⟩
  refine wpAny_Call_Name_kw (ld_glob I hg hm ?_ hdb)
  refine PySem.W.callWith_K (h₀ := X.base) I.ok.mod.kin hk (thn (ha.run pos pins s σ H _ I h) fun us s1 ⟨vs, H1, I1, r, q⟩ => ⟨I1.kIn, ?_⟩) he hpl
  have r2 : Vals (vs ++ dvs) (us ++ ds) := r.append hd
  have hl : (us ++ ds).length = ps.length := by rw [← r2.length]; exact F.len _ _ _ _ q
  refine wpAny_call (codeAny_mono (F.run X.A X.stack s1 H1 ⟨us, []⟩ (us ++ ds) (vs ++ dvs) Q E hr gd I1.env0 (hb s1 us I1.kIn hl) r2 q) fun r s' hq => ?_)
  cases r with
  | error e => exact hx pins σ H1 s1 e s' I1 hq
  | ok fl =>
    cases fl with
    | ret u => exact I1.after hq
    | next => exact False.elim hq
    | brk => exact False.elim hq
    | cont => exact False.elim hq
/-- repr of data without dicts -/
def rRepr (K : PySem.W.Frag) : List V → Hp → VK → Prop := fun vs H Q => ∃ (v : V) (d : PyData), vs = [v] ∧ Dp K H v d ∧ d.showable = true ∧ d.hasDict = false ∧ d.depth ≤ 60 ∧ d.shown.length ≤ sizeLine ∧ (∃ a, v = .ref a) ∧ Q (.str d.shown) H
theorem cr_repr (gd : X.A.guards = some []) (hu : X.A.units + 64 < cLine) : CallR X (.builtin "repr") (rRepr X.K) := by
  intro pins s σ H vs us Q I r h
  obtain ⟨v, d, rfl, hd, h1, h2, h3, h4, ⟨a, rfl⟩, q⟩ := h
  rw [Vals.ref1 r]
  obtain ⟨as, rd⟩ := Dp.reads I d (.ref a) (.ref a) hd rfl
  exact repr_of_reads' rd h1 (fun z => by rw [h2] at z; cases z) gd (by omega) (fun b o e => e) (fun h' u tk hk => ⟨.str d.shown, H, I.kept hk, ⟨_, rfl⟩, q⟩) h4
end
/-! ### the head: nothing of repr is under way where the law is called -/
theorem law_callG {P : Program} {w : World} {K : PySem.W.Frag} {mg mb : Str → Option Value} {CX : CXT} {k : Nat} {fa a : Addr} {fd : FuncData} {x : Str} {sp : Sp} {s₁ : Shared} {vs : List Value} {ns : List Int}
    (KX : K.In s₁.heap) (hns : s₁.heap.Ns mainGlobals mg) (hb : s₁.heap.Ns builtinsNs mb) (hbb : ∀ x : Str, x ≠ "__name__" → mb x = bootBuiltins x) (hlim : s₁.heap.NoLimit) (hg : s₁.gens = #[])
    (ha : s₁.heap.get? a = some { cls := .type "list", data := .seq vs.toArray }) (hi : IntsAre vs ns) (hl : ns.length ≤ sizeLine) (hr : Room k callerA)
    (F : ∀ base : Heap, K.In base → base.Ns mainGlobals mg → FnOkG P w K mg base CX k fa fd [x] sp) (hbind : ∀ (s : Shared) (u : Value), BindsTo s fd ⟨[u], []⟩ [(x, u)])
    (hsp : ∀ H : Hp, Only H → SqL K H a (ns.map V.int) → sp [.ref a] H (fun v _ => v = .bl true) fun _ _ _ => False)
    (hCX : ∀ H e s', CX [] H s₁ (fun _ _ _ => False) e s' → False) :
    codeAny (model P w) callerA (.call (.ref fa) ⟨[.ref a], []⟩) (fun r s' => r = .ok (.ret (.bool true)) ∧ OldK s₁.heap s'.heap ∧ s'.os = s₁.os ∧ AllBare s'.gens) s₁ := by
  have rv := vals_ints hi
  have lenV := hi.length
  have core : ∀ H : Hp, Only H → SqL K H a (ns.map V.int) → HOk P w H s₁.heap → (∀ b, H b ≠ none → b = a) → (H a ≠ none → K.lookup a = none) →
      codeAny (model P w) callerA (.call (.ref fa) ⟨[.ref a], []⟩) (fun r s' => r = .ok (.ret (.bool true)) ∧ OldK s₁.heap s'.heap ∧ s'.os = s₁.os ∧ AllBare s'.gens) s₁ := by
    intro H hO hS hok hA hK
    have free : ∀ {b : Addr} {P : Prop}, (∀ u, H b = some u → b = a → P → False) → P → H b = none := fun {b P} h p => by
      cases q : H b with
      | none => rfl
      | some u => exact (h u q (hA b (by rw [q]; simp)) p).elim
    have noA : ∀ {b : Addr} {o : Obj} {es : Array DictEntry} {ep : Nat}, s₁.heap.get? b = some o → o.data = .dict es ep → H b = none := fun {b o es ep} e d => free (P := True) (fun u q e' _ => by
      subst e'
      rw [ha] at e
      cases e
      cases d) trivial
    have nsK : ∀ {b : Addr} {m : Str → Option Value}, s₁.heap.Ns b m → (hidT s₁.heap H).Ns b m := fun {b m} ⟨o, es, ep, e, d, r⟩ => ⟨o, es, ep, hidT_get e (noA e d), d, r⟩
    have hKb : K.In (hidT s₁.heap H) := fun b o e => hidT_get (KX b o e) (free (P := True) (fun u q e' _ => by
      subst e'
      rw [hK (by rw [q]; simp)] at e
      cases e) trivial)
    have hM : Mod K mg (hidT s₁.heap H) := ⟨hKb, nsK hns, ⟨mb, nsK hb, hbb⟩, let ⟨mc, h1, h2⟩ := hlim; ⟨mc, nsK h1, h2⟩⟩
    have e0 : Env0 P w K mg (hidT s₁.heap H) callerA [] s₁ H := ⟨rfl, hM, fun b o e => of_hidT e, Nat.le_of_eq (hidT_size _ _), trivial, fun b hb => absurd (show b ∈ ([] : List Addr) from hb) (by simp), hok, .of_eq hg⟩
    refine codeAny_mono ((F _ hKb (nsK hns)).run callerA [] s₁ H ⟨[.ref a], []⟩ [.ref a] [.ref a] _ _ hr rfl e0 (hbind s₁ (.ref a)) (.cons rfl .nil) (hsp H hO hS)) fun r s' h => ?_
    cases r with
    | error e => exact (hCX H e s' h).elim
    | ok fl =>
      cases fl with
      | next => exact False.elim h
      | brk => exact False.elim h
      | cont => exact False.elim h
      | ret u =>
        obtain ⟨v, H', os, bare, un, hok', r', q⟩ := h
        have q' : v = .bl true := q
        subst q'
        obtain rfl : u = Value.bool true := r'
        refine ⟨rfl, OldK.of_keep fun b o e => ?_, os, bare⟩
        rcases hO b with z | ⟨ob, xs, z⟩
        · exact un.keep b o e z (by intro z; exact absurd (show b ∈ ([] : List Addr) from z) (by simp)) (by simp)
        · have z2 := un.frzs b ob _ z
          obtain ⟨e1, _⟩ := hok b _ z
          obtain ⟨e2, _⟩ := hok' b _ z2
          rw [e] at e1
          cases e1
          exact e2
  cases hk : K.lookup a with
  | some o =>
    have e := KX a o hk
    rw [ha] at e
    cases e
    exact core (fun _ => none) (fun _ => .inl rfl) (.inr ⟨_, vs.toArray, _, hk, rfl, rfl, rfl, by rw [List.size_toArray, lenV]; exact hl, by simpa using rv⟩) (fun b u z => nomatch (show (none : Option HO) = some u from z)) (fun b z => absurd rfl z) fun z => absurd rfl z
  | none =>
    refine core (fun b => if b = a then some (.frz { cls := .type "list", data := .seq vs.toArray } (.lst (ns.map V.int))) else none) (fun b => ?_) (.inl (.inr ⟨{ cls := .type "list", data := .seq vs.toArray }, if_pos rfl⟩)) (fun b u z => ?_) (fun b z => ?_) fun _ => hk
    · by_cases hb : b = a
      · exact .inr ⟨_, _, if_pos hb⟩
      · exact .inl (if_neg hb)
    · by_cases hb : b = a
      · have z' := (if_pos hb).symm.trans z
        cases z'
        subst hb
        exact ⟨ha, by rw [List.length_map]; exact hl, vs, _, rv, ha⟩
      · have z' := (if_neg hb).symm.trans z
        cases z'
    · by_cases hb : b = a
      · exact hb
      · exact absurd (if_neg hb) z
theorem walk_ofG {l : PySem.W.OpenLaw} {n k : Nat} {q : Program} {loose : List Str} {XP : (Str → Option Value) → Heap → Prop} {YP : World → Heap → Prop} {d : DefRec} {K : Params → PySem.W.Frag} {CX : World → CXT} {sp : World → Sp} {x : Str}
    (hn : l.most = some n) (hn2 : n ≤ sizeLine) (hdf : d.params.defaults = []) (hr : Room k callerA)
    (hY : ∀ (w : World) (h : Heap), YP w h → (K w.params).In h)
    (F : ∀ (w : World) (mg : Str → Option Value) (fa : Addr) (h : Heap), (K w.params).In h → h.Ns mainGlobals mg → mg d.name = some (.ref fa) →
      ∃ fd : FuncData, (∀ (s : Shared) (u : Value), BindsTo s fd ⟨[u], []⟩ [(x, u)]) ∧
        ∀ base : Heap, (K w.params).In base → base.Ns mainGlobals mg → FnOkG l.prog w (K w.params) mg base (CX w) k fa fd [x] (sp w))
    (hsp : ∀ (w : World) (H : Hp) (a : Addr) (ns : List Int), ns.length ≤ n → Only H → SqL (K w.params) H a (ns.map V.int) → sp w [.ref a] H (fun v _ => v = .bl true) fun _ _ _ => False)
    (hCX : ∀ (w : World) (H : Hp) (s : Shared) (e : Value) (s' : Shared), CX w [] H s (fun _ _ _ => False) e s' → False) :
    PySem.W.WalkO q loose XP YP l.row.toRowW d [] (fun f vs => PySem.call f vs) := by
  refine Att.attach_call hn hdf fun w s₀ s₁ mg mb fa o pm cd doc a vs ns G Y ho hd hcd hmg hobj hints hlen hg => ?_
  have KX := hY w _ Y
  obtain ⟨fd, hb, hF⟩ := F w mg fa _ KX G.T.g hmg
  exact law_callG KX G.T.g G.T.b G.T.builtins G.T.nolimit hg hobj hints (Nat.le_trans hlen hn2) hr hF hb (fun H hO hS => hsp w H a ns hlen hO hS) fun H e s' => hCX w H s₁ e s'
end My
set_option Elab.async false
set_option linter.all false
set_option maxRecDepth 100000
set_option maxHeartbeats 4000000
/-! sorted(d) of a dict whose keys are ints. -/
namespace My
open PySem PySem.Spec PyProof.Rows L2
theorem len_dict : typeLookup (.type "dict") "__len__" = pure (some (.builtin "dict.__len__")) := by rw [typeLookup_type, builtinLookup_eq_fast]; kernel_rfl
section
variable {prog : Program} {w : World} {A : Around} {E : Value → Shared → Prop} {s : Shared} {d : Addr} {od : Obj} {es : Array DictEntry} {ep : Nat}
theorem dict_hint (hT : s.TypeIs (.ref d) "dict") {Q : Bool → Shared → Prop} (h : Q false s) : wpAny (model prog w) A (Builtin.List.listLengthHint (.ref d)) Q E s := by
  unfold Builtin.List.listLengthHint
  refine wpAny_bind (wpAny_specialOf hT len_dict ?_)
  generalize hid : ("dict.__len__" : String) = id0
  wp_delta
  rw [show splitId id0 = some ("dict", "__len__") from by subst hid; decide +kernel]
  subst hid
  refine wpAny_bind (wpAny_isInstance (T := "dict") (b := true) hT (by rw [isSubtype_type]; kernel_rfl) ?_)
  refine wpAny_ite_split (fun hab => absurd hab (by decide)) (fun _ => ?_)
  refine wpAny_ite_split (fun _ => ?_) (fun hab => absurd (by decide +kernel) hab)
  refine wpAny_bind (wpAny_typeOf hT ?_)
  exact wpAny_pure h
/-- the loop that takes the keys -/
theorem loopD {R : Result → Shared → Prop} {S I : Addr} (hh : A.handled = none) (hSI : S ≠ I) (hSd : d ≠ S) (hId : d ≠ I) (hn : es.size ≤ sizeLine) (res : Value) {h₁ : Heap} (hdd : od.data = .dict es ep)
    (hR : ∀ h' c, (∀ b o, b ≠ S → b ≠ I → h₁.get? b = some o → h'.get? b = some o) → h'.get? S = some { cls := .type "list", dict := none, data := .seq (es.map (·.key)) c, slots := #[] } → R (.ok (.ret res)) { s with heap := h' }) :
    ∀ (k i : Nat) (h : Heap) (c : Nat) (acc : Array Value), es.size - i = k → i ≤ es.size → h.IsKeyIter I d i es.size ep → h.get? d = some od → (∀ b o, b ≠ S → b ≠ I → h₁.get? b = some o → h.get? b = some o) →
      h.get? S = some { cls := .type "list", dict := none, data := .seq acc c, slots := #[] } → acc.toList = (es.toList.take i).map (·.key) →
      codeAny (model prog w) A (.builtin "list.extend.loop" ⟨[.ref S, .ref I, res], []⟩) R { s with heap := h } := by
  intro k
  induction k with
  | zero =>
    intro i h c acc hk hi hst hD hkeep hS hacc
    refine codeAny_builtin PySem.F.entry_extend_loop ?_
    rw [Around.under_plainId PySem.F.plain_extend_loop _]
    show wpAny _ A.in1 (pyNext (.ref I) >>= _) _ _ _
    refine wpAny_bind (next_key_end (s := { s with heap := h }) (A := A.in1) hh hst hD hdd rfl (by omega) fun h' he => ?_)
    have ea : acc = es.map (·.key) := by
      apply Array.toList_inj.mp
      rw [hacc, List.take_of_length_le (by rw [Array.length_toList]; omega), Array.toList_map]
    rw [ea] at hS
    exact wpAny_pure (hR h' c (fun b o h1 h2 e => he b o h2 (hkeep b o h1 h2 e)) (he S _ hSI hS))
  | succ k ih =>
    intro i h c acc hk hi hst hD hkeep hS hacc
    have hlt : i < es.size := by omega
    have hsz : acc.size = i := by rw [← Array.length_toList, hacc, List.length_map, List.length_take, Array.length_toList]; omega
    refine codeAny_builtin PySem.F.entry_extend_loop ?_
    rw [Around.under_plainId PySem.F.plain_extend_loop _]
    show wpAny _ A.in1 (pyNext (.ref I) >>= _) _ _ _
    refine wpAny_bind (next_key_item (s := { s with heap := h }) (en := es[i]) hst hD hdd rfl (Array.getElem?_eq_getElem hlt) fun h' hst' hs' => ?_)
    have hS' := hs'.extBut S _ hSI hS
    have up : ∀ b o, b ≠ S → h'.get? b = some o → (h'.update S (Obj.mapSeq (·.push es[i].key))).get? b = some o := fun b o hb e => (Heap.get?_update_other _ _ (Ne.symm hb)).trans e
    show wpAny _ A.in1 (updateSeq S (·.push es[i].key) >>= _) _ _ _
    refine wpAny_bind ?_
    refine wpAny_updateSeq hS' rfl (wpAny_pure ⟨plainId_quiet PySem.F.plain_extend_loop _, ih (i + 1) _ _ (acc.push es[i].key) (by omega) hlt (hst'.at fun o e => up _ o hSI.symm e) (up d _ hSd (hs'.extBut d _ hId hD))
      (fun b o h1 h2 e => up b o h1 (hs'.extBut b _ h2 (hkeep b o h1 h2 e))) (Heap.get?_update_self _ hS' rfl) ?_⟩) (by rw [hsz]; omega) (by show (acc.push es[i].key).size ≤ sizeLine + 1; rw [Array.size_push, hsz]; omega)
    rw [Array.toList_push, hacc, List.take_add_one, Array.getElem?_toList, Array.getElem?_eq_getElem hlt, List.map_append]
    rfl
theorem extD {R : Result → Shared → Prop} {P2 : Program} {κ : Type} [DecidableEq κ] {knd : PySem.KeyKind prog w κ} {kvs : List (κ × Value)} (hh : A.handled = none) (hsys : (d == sysModules) = false) (hm : s.heap.DictAt knd d kvs ep) (ho : s.heap.get? d = some od) (hdd : od.data = .dict es ep) (hk : kvs.length = es.size) (S : Addr) (hSd : d ≠ S) (res : Value) (c₀ : Nat) (hS : s.heap.get? S = some { cls := .type "list", data := .seq #[] c₀ })
    (hR : ∀ h' c, (∀ b o, b ≠ S → s.heap.get? b = some o → h'.get? b = some o) → h'.get? S = some { cls := .type "list", dict := none, data := .seq (es.map (·.key)) c, slots := #[] } → R (.ok (.ret res)) { s with heap := h' }) (hn : es.size ≤ sizeLine) :
    wpAny (model prog w) A.in1 (Builtin.List.listExtendWith (.ref S) (.ref d) res)
      (fun fin s' => match fin with | .done f => R (.ok f) s' | .again c' => c'.quiet = true ∧ codeAny (model prog w) A c' R s') (fun e s' => R (.error e) s') s := by
  have hSI : S < s.heap.objs.size := Heap.lt_size hS
  have hdI : d < s.heap.objs.size := Heap.lt_size ho
  have hT : s.TypeIs (.ref d) "dict" := hm.dictOf.typeIs
  have key : ∀ (h : Heap) (c₁ : Nat), (∀ b o, b ≠ S → (s.heap.push { cls := .type "dict_keyiterator", data := .fields #[.ref d, .int 0 0, .int kvs.length 0, .int ep 0] }).get? b = some o → h.get? b = some o) →
      h.get? S = some { cls := .type "list", data := .seq #[] c₁ } → codeAny (model prog w) A (.builtin "list.extend.loop" ⟨[.ref S, .ref s.heap.objs.size, res], []⟩) R { s with heap := h } := by
    intro h c₁ hk' hS₁
    have hI := hk' s.heap.objs.size _ (Nat.ne_of_gt hSI) (Heap.get?_push_size _ rfl)
    rw [hk] at hI
    exact loopD (s := s) (h₁ := s.heap) hh (Nat.ne_of_lt hSI) hSd (Nat.ne_of_lt hdI) hn res hdd (fun h' c hk2 hS2 => hR h' c (fun b o hb e => hk2 b o hb (Nat.ne_of_lt (Heap.lt_size e)) e) hS2)
      es.size 0 h c₁ #[] (Nat.sub_zero _) (Nat.zero_le _) ⟨_, hI, rfl, rfl⟩ (hk' d _ hSd (Heap.get?_push_of_some _ ho)) (fun b o hb _ e => hk' b o hb (Heap.get?_push_of_some _ e)) hS₁ rfl
  unfold Builtin.List.listExtendWith
  refine wpAny_bind (wpAny_typeOf (T := "dict") hT ?_)
  have h1 : Builtin.List.listSameRef (.ref S) (.ref d) = false := by simp [Builtin.List.listSameRef, Ne.symm hSd]
  have h2 : (Value.type "dict" == Value.type "list") = false := by decide
  have h3 : (Value.type "dict" == Value.type "tuple") = false := by decide
  simp only [h1, h2, h3, Bool.or_false, Bool.false_eq_true, if_false]
  refine wpAny_bind (wpAny_pyIter_dict hsys hm ?_)
  have hS₁ := Heap.get?_push_of_some { cls := .type "dict_keyiterator", data := .fields #[.ref d, .int 0 0, .int kvs.length 0, .int ep 0] } hS
  refine wpAny_bind (wpAny_holding (dict_hint (let ⟨o, ho, hc⟩ := hT; ⟨o, Heap.get?_push_of_some _ ho, hc⟩) ?_))
  refine wpAny_ite_split (fun _ => ?_) (fun _ => wpAny_pure ⟨plainId_quiet PySem.F.plain_extend_loop _, key _ c₀ (fun b o _ e => e) hS₁⟩)
  refine wpAny_bind (wpAny_rule ?_)
  refine wpAny_bind ?_
  show wpAny _ _ (updateSeq S (·.push .none) >>= fun _ => updateSeq S (·.pop)) _ _ _
  refine wpAny_bind (wpAny_updateSeq hS₁ rfl ?_)
  have hS₂ := Heap.get?_update_self (Obj.mapSeq (·.push Value.none)) hS₁ rfl
  refine wpAny_updateSeq (hz := by seq_fits) hS₂ rfl ?_
  have hS₃ := Heap.get?_update_self (Obj.mapSeq (·.pop)) hS₂ rfl
  refine wpAny_pure ⟨plainId_quiet PySem.F.plain_extend_loop _, key _ _ (fun b o hb e => ?_) hS₃⟩
  exact (Heap.get?_update_other _ _ (Ne.symm hb)).trans ((Heap.get?_update_other _ _ (Ne.symm hb)).trans e)
theorem collectD {R : List Value → Shared → Prop} {κ : Type} [DecidableEq κ] {knd : PySem.KeyKind prog w κ} {kvs : List (κ × Value)} (hh : A.handled = none) (hsys : (d == sysModules) = false) (hm : s.heap.DictAt knd d kvs ep) (ho : s.heap.get? d = some od) (hdd : od.data = .dict es ep) (hk : kvs.length = es.size) (hn : es.size ≤ sizeLine)
    (h : ∀ (h' : Heap), (∀ b o, s.heap.get? b = some o → h'.get? b = some o) → s.heap.objs.size < h'.objs.size → R (es.toList.map (·.key)) { s with heap := h' }) :
    wpAny (model prog w) A (collect (.ref d)) R E s := by
  have hd : d < s.heap.objs.size := Heap.lt_size ho
  unfold collect
  refine wpAny_bind (wpAny_runValue (codeAny_builtin entry_proto_collect' ?_))
  rw [Around.under_plainId PySem.F.plain_proto_collect _]
  show wpAny _ A.in1 (newList [] >>= fun l => again (.builtin "list.__iadd__" ⟨[l, .ref d], []⟩)) _ _ s
  refine wpAny_bind (wpAny_newObj_type ?_)
  refine wpAny_pure ⟨plainId_quiet PySem.F.plain_list_iadd _, codeAny_builtin entry_list_iadd' ?_⟩
  rw [Around.under_plainId PySem.F.plain_list_iadd _]
  have hS₁ : (s.heap.push { cls := .type "list", data := .seq ([] : List Value).toArray }).get? s.heap.objs.size = some { cls := .type "list", data := .seq #[] } := Heap.get?_push_size _ rfl
  show wpAny _ A.in1 (Builtin.List.listExtendWith (.ref s.heap.objs.size) (.ref d) (.ref s.heap.objs.size)) _ _ _
  have key := extD (prog := prog) (w := w) (A := A) (P2 := prog) (s := { s with heap := s.heap.push { cls := .type "list", data := .seq ([] : List Value).toArray } }) (es := es) (ep := ep) (od := od) (knd := knd) (kvs := kvs)
    (R := fun (q : Result) (s' : Shared) => ∃ (h' : Heap) (c' : Nat), q = .ok (.ret (.ref s.heap.objs.size)) ∧ s' = { s with heap := h' } ∧
      (∀ b o, s.heap.get? b = some o → h'.get? b = some o) ∧ h'.get? s.heap.objs.size = some { cls := .type "list", dict := none, data := .seq (es.map (·.key)) c', slots := #[] })
    hh hsys (hm.push _) (Heap.get?_push_of_some _ ho) hdd hk s.heap.objs.size (Nat.ne_of_lt hd) (.ref s.heap.objs.size) 0 hS₁
    (fun h' c' hk2 hS' => ⟨h', c', rfl, rfl, fun b o e => hk2 b o (Nat.ne_of_lt (Heap.lt_size e)) (Heap.get?_push_of_some _ e), hS'⟩) hn
  have fin : ∀ (h' : Heap) (c' : Nat), (∀ b o, s.heap.get? b = some o → h'.get? b = some o) → h'.get? s.heap.objs.size = some { cls := .type "list", dict := none, data := .seq (es.map (·.key)) c', slots := #[] } → R (es.map (·.key)).toList { s with heap := h' } := fun h' c' hk2 hS' => by
    rw [Array.toList_map]
    exact h h' hk2 (Heap.lt_size hS')
  refine wpAny_mono key (fun fn s' x => ?_) fun e s' x => ?_
  · cases fn with
    | done f =>
      obtain ⟨h', c', e, rfl, hk2, hS'⟩ := x
      cases e
      show wpAny _ A (load s.heap.objs.size >>= _) _ _ _
      refine wpAny_bind (wpAny_load hS' ?_)
      exact wpAny_pure (fin h' c' hk2 hS')
    | again c₁ =>
      refine ⟨x.1, codeAny_mono x.2 fun q s₂ y => ?_⟩
      obtain ⟨h', c', rfl, rfl, hk2, hS'⟩ := y
      show wpAny _ A (load s.heap.objs.size >>= _) _ _ _
      refine wpAny_bind (wpAny_load hS' ?_)
      exact wpAny_pure (fin h' c' hk2 hS')
  · obtain ⟨_, _, e', _⟩ := x
    cases e'
end
section
variable {X : Cx}
theorem keys_of {P : Program} {w : World} : ∀ {es : List DictEntry} {kvs : List (Key × Value)}, Pairs (mixKind P w) es kvs → es.length = kvs.length ∧ ∀ ns : List Int, kvs.map (·.1) = ns.map Sum.inl → IntsAre (es.map (·.key)) ns
  | _, _, .nil => ⟨rfl, fun ns h => by
    cases ns with
    | nil => exact .nil
    | cons n ns => cases h⟩
  | _, _, .cons hk hv hp => by
    obtain ⟨h1, h2⟩ := keys_of hp
    refine ⟨by simp [h1], fun ns h => ?_⟩
    cases ns with
    | nil => cases h
    | cons n ns =>
      injection h with e1 e2
      dsimp only at e1
      rcases keyIs_shape hk with ⟨i, t, h3, h4⟩ | ⟨x, t, h3, h4⟩
      · rw [h3] at e1
        cases e1
        rw [List.map_cons, h4]
        exact .cons _ _ (h2 ns e2)
      · rw [h3] at e1
        cases e1
/-- sorted(d), the keys ints -/
def rSortedD : List V → Hp → VK → Prop := fun vs H Q => ∃ (a : Addr) (kvs : List (Key × V)) (ns : List Int), vs = [V.ref a] ∧ H a = some (.dK kvs) ∧ kvs.map (·.1) = ns.map Sum.inl ∧ ∀ ns' : List Int, ns'.Perm ns → ns'.Pairwise (· ≤ ·) → New (.lst (ns'.map V.int)) H Q
theorem cr_sortedD (hc : X.calm = true) : CallR X (.builtin "sorted") rSortedD := by
  intro pins s σ H vs us Q I r h
  obtain ⟨a, kvs, ns, rfl, ha, hk, q⟩ := h
  rw [Vals.ref1 r]
  obtain ⟨z, hsys, vs, rel, dd⟩ := dk_of I.hok ha
  obtain ⟨ep, dat⟩ := dd.dictAt
  obtain ⟨od, es, ho, hex, hdat, hks, hp, hnd⟩ := id dat
  obtain ⟨l1, hi⟩ := keys_of hp
  have ek : vs.map (·.1) = kvs.map (·.1) := by
    have : ∀ {kvs : List (Key × V)} {vs : List (Key × Value)}, KV kvs vs → vs.map (·.1) = kvs.map (·.1) := fun rel => by
      induction rel with
      | nil => rfl
      | cons h _ ih => rw [List.map_cons, List.map_cons, ih, h.1]
    exact this rel
  have hI := hi ns (ek.trans hk)
  have lk : vs.length = es.size := by rw [← l1, Array.length_toList]
  have lz : es.size ≤ sizeLine := by
    rw [← lk, ← List.length_map (f := (·.1)), ek, List.length_map]
    exact z
  refine Calls.call_function_entry kind_sorted plain_sorted entry_sorted (args_sorted1 _) ?_
  unfold Builtin.«sorted»
  refine wpAny_bind (m := checkCount "sorted" 1 1 _) (wpAny_pure ?_)
  refine wpAny_bind (collectD (A := X.A.in1) (I.ok.hd hc) hsys dat ho hdat lk lz fun h' hk' hlt => ?_)
  refine wpAny_bind (wpAny_newList ?_ (by rw [List.length_map, Array.length_toList]; exact lz))
  have hoL : (h'.push (seqObj "list" (es.toList.map (·.key)).toArray 0)).get? h'.objs.size = some (seqObj "list" (es.toList.map (·.key)).toArray 0) := Heap.get?_push_size _ rfl
  refine wpAny_bind (wpAny_holding (wpAny_call_entry PyProof.Rows.slot_list_sort ⟨_, hoL, rfl⟩ PyProof.Rows.entry_list_sort
    (SrtO.list_sort_ord SrtO.swo_int hoL (by rw [List.length_map, Array.length_toList]; exact lz) (fun h2 => SrtO.ints_sortable hI h2) fun out h1 h2 => ⟨_, rfl, ?_⟩) (PyProof.Rows.args_list_sort _)))
  obtain ⟨k1, k2, k3⟩ := SrtO.ints_out hI h1 h2
  obtain ⟨c, hc'⟩ := sortedHeap_at (vs := es.toList.map (·.key)) (out := out.toArray) hoL
  have hlen : ((out.map SrtO.iv).map V.int).length ≤ sizeLine := by
    rw [List.length_map, k2.length_eq, ← hI.length, List.length_map, Array.length_toList]
    exact lz
  have hle : s.heap.objs.size ≤ h'.objs.size := Nat.le_of_lt hlt
  have hn : H h'.objs.size = none := I.hok.fresh hle
  refine wpAny_pure ⟨_, rfl, .ref _, upd H h'.objs.size (.lst ((out.map SrtO.iv).map V.int)), I.laid (t' := s.toks) (fun b o e => ?_) hle ⟨hlen, out, c, vals_of_ints k1, hc'⟩, rfl, (q _ k2 k3).go _ hn⟩
  have e1 := hk' b o e
  have hb := Heap.lt_size e1
  rw [sortedHeap_old (Nat.ne_of_lt hb) (by rw [Heap.size_push]; exact Nat.lt_succ_of_lt hb)]
  exact Heap.get?_push_of_some _ e1
end
end My
set_option Elab.async false
set_option linter.all false
set_option maxRecDepth 100000
set_option maxHeartbeats 4000000
/-! dicts with int keys, as a list of keys and a function. -/
namespace My
open PySem L2
def kvsOf (ns : List Int) (g : Int → V) : List (Key × V) := ns.map fun n => (Sum.inl n, g n)
theorem kvs_keys (ns : List Int) (g : Int → V) : (kvsOf ns g).map (·.1) = ns.map Sum.inl := by
  unfold kvsOf
  rw [List.map_map]
  rfl
theorem kvs_len (ns : List Int) (g : Int → V) : (kvsOf ns g).length = ns.length := by
  unfold kvsOf
  rw [List.length_map]
theorem kvs_congr {ns : List Int} {g g' : Int → V} (h : ∀ n ∈ ns, g n = g' n) : kvsOf ns g = kvsOf ns g' := by
  unfold kvsOf
  exact List.map_congr_left fun n hn => by rw [h n hn]
theorem valV_kvs (g : Int → V) (k : Int) : ∀ ns : List Int, valV (kvsOf ns g) (Sum.inl k) = if k ∈ ns then some (g k) else none
  | [] => rfl
  | n :: ns => by
    show valV ((Sum.inl n, g n) :: kvsOf ns g) (Sum.inl k) = _
    by_cases e : n = k
    · subst e
      rw [valV_pos rfl, if_pos List.mem_cons_self]
    · rw [valV_neg (fun z => e (Sum.inl.inj z)), valV_kvs g k ns]
      by_cases m : k ∈ ns
      · rw [if_pos m, if_pos (List.mem_cons_of_mem _ m)]
      · rw [if_neg m, if_neg (fun z => by
          rcases List.mem_cons.mp z with z | z
          · exact e z.symm
          · exact m z)]
theorem any_kvs (g : Int → V) (k : Int) (ns : List Int) : ((kvsOf ns g).any fun kv => decide (kv.1 = Sum.inl k)) = decide (k ∈ ns) := by
  unfold kvsOf
  rw [List.any_map, Bool.eq_iff_iff, List.any_eq_true]
  constructor
  · rintro ⟨n, hn, e⟩
    have : n = k := by simpa using e
    subst this
    exact decide_eq_true hn
  · intro h
    exact ⟨k, of_decide_eq_true h, by simp⟩
theorem putK_kvs (g : Int → V) (k : Int) (v : V) (ns : List Int) : putK (kvsOf ns g) (Sum.inl k) v = kvsOf (if k ∈ ns then ns else ns ++ [k]) (fun n => if n = k then v else g n) := by
  unfold putK
  rw [any_kvs]
  by_cases m : k ∈ ns
  · rw [decide_eq_true m, if_pos rfl, if_pos m]
    unfold kvsOf
    rw [List.map_map]
    refine List.map_congr_left fun n hn => ?_
    show (if (Sum.inl n : Key) = Sum.inl k then ((Sum.inl n : Key), v) else (Sum.inl n, g n)) = (Sum.inl n, if n = k then v else g n)
    by_cases e : n = k
    · rw [if_pos (by rw [e]), if_pos e]
    · rw [if_neg (fun z => e (Sum.inl.inj z)), if_neg e]
  · rw [decide_eq_false m, if_neg Bool.false_ne_true, if_neg m]
    unfold kvsOf
    rw [List.map_append]
    congr 1
    · refine List.map_congr_left fun n hn => ?_
      have z : ¬ n = k := fun z => m (by rw [← z]; exact hn)
      show (Sum.inl n, g n) = (Sum.inl n, if n = k then v else g n)
      rw [if_neg z]
    · show [(Sum.inl k, v)] = [(Sum.inl k, if k = k then v else g k)]
      rw [if_pos rfl]
theorem dropK_kvs (g : Int → V) (k : Int) (ns : List Int) : dropK (kvsOf ns g) (Sum.inl k) = kvsOf (ns.filter fun n => decide (n ≠ k)) g := by
  unfold dropK kvsOf
  rw [List.filter_map]
  congr 1
  refine List.filter_congr fun n hn => ?_
  show decide ((Sum.inl n : Key) ≠ Sum.inl k) = decide (n ≠ k)
  rw [decide_eq_decide]
  exact ⟨fun h e => h (by rw [e]), fun h e => h (Sum.inl.inj e)⟩
theorem put_nodup {ns : List Int} (h : ns.Nodup) (k : Int) : (if k ∈ ns then ns else ns ++ [k]).Nodup := by
  split
  · exact h
  · rename_i m
    rw [List.nodup_append]
    exact ⟨h, by simp, fun a ha b hb => by
      have : b = k := by simpa using hb
      subst this
      exact fun e => m (e ▸ ha)⟩
theorem mem_put {ns : List Int} {k r : Int} : r ∈ (if k ∈ ns then ns else ns ++ [k]) ↔ r ∈ ns ∨ r = k := by
  split
  · rename_i m
    exact ⟨.inl, fun h => h.elim id fun e => e ▸ m⟩
  · simp
/-- two ascending lists without doubles of the same members are one -/
theorem asc_unique : ∀ {l m : List Int}, l.Pairwise (· < ·) → m.Pairwise (· < ·) → (∀ r, r ∈ l ↔ r ∈ m) → l = m
  | [], [], _, _, _ => rfl
  | [], y :: m, _, _, h => by
    have := (h y).mpr List.mem_cons_self
    cases this
  | x :: l, [], _, _, h => by
    have := (h x).mp List.mem_cons_self
    cases this
  | x :: l, y :: m, h1, h2, h => by
    obtain ⟨a1, a2⟩ := List.pairwise_cons.mp h1
    obtain ⟨b1, b2⟩ := List.pairwise_cons.mp h2
    have e : x = y := by
      rcases List.mem_cons.mp ((h x).mp List.mem_cons_self) with z | z
      · exact z
      · rcases List.mem_cons.mp ((h y).mpr List.mem_cons_self) with z' | z'
        · exact z'.symm
        · have := b1 x z
          have := a1 y z'
          omega
    subst e
    rw [asc_unique a2 b2 fun r => ?_]
    constructor
    · intro hr
      rcases List.mem_cons.mp ((h r).mp (List.mem_cons_of_mem _ hr)) with z | z
      · have := a1 r hr
        omega
      · exact z
    · intro hr
      rcases List.mem_cons.mp ((h r).mpr (List.mem_cons_of_mem _ hr)) with z | z
      · have := b1 r hr
        omega
      · exact z
theorem asc_of {ns ns' : List Int} (hp : ns'.Perm ns) (hs : ns'.Pairwise (· ≤ ·)) (hn : ns.Nodup) : ns'.Pairwise (· < ·) := by
  have hn' : ns'.Nodup := hp.nodup_iff.mpr hn
  exact (List.Pairwise.and hs hn').imp fun ⟨h1, h2⟩ => by omega
end My
namespace My
open PySem L2
/-- a dict comprehension over any walk -/
theorem dc_it {J : It} {n : Nat} {G : Hp → Prop} {Y : Nat → Hp → V → Hp → Prop} (w : Walk J n G Y) {g : TG} {tt : TT} {tk tv : TE} {vs : List Nat} {σ : L2.St} {H1 : Hp} {D : Addr} {Qd : Hp → Prop} (Pv : Nat → Hp → Prop) (h0 : Pv 0 (upd H1 D (.dK []))) (hG : ∀ i H, i ≤ n → Pv i H → G H)
    (hs : ∀ i x H H', i < n → Pv i H → Y i H x H' → g x (wipe σ vs) H' fun σ2 H2 => wipe σ2 vs = wipe σ vs ∧ tt σ2 H2 fun b H3 =>
      if b = true then tk σ2 H3 fun y H4 => tv σ2 H4 fun z H5 => ∃ kvs k, y = kV k ∧ H5 D = some (.dK kvs) ∧ kvs.length < sizeLine ∧ Pv (i + 1) (upd H5 D (.dK (putK kvs k z))) else Pv (i + 1) H3) (hd : ∀ H, Pv n H → Qd H) :
    ∃ W : Nat → Nat → Hp → Prop, (∃ m, W 0 m (upd H1 D (.dK []))) ∧ ∀ i m H, W i m H →
      (J.stop i H ∧ Qd H) ∨ (J.go i H ∧ ∃ Nx : Hp → Prop, (∀ H', Nx H' → ∃ m', m' < m ∧ W (i + 1) m' H') ∧ ∀ x H', J.yld i H x H' → g x (wipe σ vs) H' fun σ2 H2 => wipe σ2 vs = wipe σ vs ∧ tt σ2 H2 fun b H3 =>
        if b = true then tk σ2 H3 fun y H4 => tv σ2 H4 fun z H5 => ∃ kvs k, y = kV k ∧ H5 D = some (.dK kvs) ∧ kvs.length < sizeLine ∧ Nx (upd H5 D (.dK (putK kvs k z))) else Nx H3) := by
  refine ⟨fun i m H => m = n - i ∧ i ≤ n ∧ Pv i H, ⟨n, by simp, Nat.zero_le _, h0⟩, ?_⟩
  rintro i m H ⟨rfl, hi, p⟩
  have q := hG i H hi p
  by_cases hlt : i < n
  · exact .inr ⟨w.goes i H hlt q, Pv (i + 1), fun H' p' => ⟨n - (i + 1), by omega, rfl, hlt, p'⟩, fun x H' y => hs i x H H' hlt p (w.yields i H x H' hlt q y)⟩
  · have e : i = n := by omega
    subst e
    exact .inl ⟨w.stops H q, hd H p⟩
end My
namespace My
open PySem PySem.Spec PyProof.Rows L2
section
variable {X : Cx}
/-- x = {k: v for ..} -/
theorem ps_setDc {i : Nat} {y : Str} {py : Pos} {kx vx tg iter : Expr} {ifs : List Expr} {scope : Scope} {own : List (Str × Nat)} {pos spos : Pos} {wi : TI} {g : TG} {tt : TT} {tk tv : TE} (hc : X.calm = true) (hN : X.N.Nodup) (hy : X.N[i]? = some y) (hyl : X.env.scope.names.lookup y = some .local)
    (hsw : swapsWith (.DictComp kx vx [⟨tg, iter, ifs, 0⟩] scope pos) (some (.Name y py)) spos.line X.env = pure true) (hi : PI X tg iter wi) (ok : BlkOk X.N X.env.scope scope own)
    (hg : ∀ (s : Shared) (H : Hp) (C : Addr) (cl : List (Str × Addr)) (fp : List Addr), PG (X.blk s H scope (compEnvC scope cl C X.env) fp) tg g) (ht : ∀ (s : Shared) (H : Hp) (C : Addr) (cl : List (Str × Addr)) (fp : List Addr), PTs (X.blk s H scope (compEnvC scope cl C X.env) fp) ifs tt)
    (hk : ∀ (s : Shared) (H : Hp) (C : Addr) (cl : List (Str × Addr)) (fp : List Addr), PE (X.blk s H scope (compEnvC scope cl C X.env) fp) kx tk)
    (he : ∀ (s : Shared) (H : Hp) (C : Addr) (cl : List (Str × Addr)) (fp : List Addr), PE (X.blk s H scope (compEnvC scope cl C X.env) fp) vx tv) (hs : ∀ x, foldedSetIterable iter X.env x = pure x := by intro _; rfl) :
    PS X (.Assign [.Name y py] (.DictComp kx vx [⟨tg, iter, ifs, 0⟩] scope pos) spos) (tAsg (tDc wi g tt tk tv (own.map (·.2))) (gName i)) := by
  refine ⟨fun pins s σ H D I h => ?_⟩
  rw [exec_Assign_Name_used _ _ _ _ hsw]
  refine wpAny_bind (wpAny_standAt (wpAny_bind ?_))
  show wpAny _ X.A (do let _ ← comprehension (.DictComp kx vx [⟨tg, iter, ifs, 0⟩] scope pos) scope X.env (firstIterPos [⟨tg, iter, ifs, 0⟩] pos) newDict false (eval iter X.env) (some (assign (.Name y py) X.env))) _ _ s
  have h : tDc wi g tt tk tv (own.map (·.2)) σ H (fun x H1 => gName i x σ H1 D.nx) := h
  refine wpAny_bind (thn (dc_core (Qf := fun _ s' => SP X pins D .next s') hc hN I hi ok hg ht hk he hs h fun L C s' m H' I' q hn f => ?_) fun _ s' hq => wpAny_pure (wpAny_pure hq))
  show wpAny _ _ (assign (.Name y py) X.env (.ref L)) _ _ _
  refine wpAny_assign_Name (store_ok2 (v := V.ref L) I' hN hy (.inl hyl) rfl (fun s2 I2 ⟨a, sb, ha⟩ => ?_) (.inr hyl))
  obtain ⟨f0, f1, f2, f3, f4, f5⟩ := f
  have haC : C ≠ a := by
    rcases ha with z | z
    · rw [z]; exact f1
    · exact fun e => f4 y a z e.symm
  refine ⟨m, hn.sameBut sb haC, fun h3 sb3 => ?_⟩
  exact ⟨_, H', I2.turned (t' := s2.toks) (fun b o hb e => (sb3.2 b hb).trans e) f0 f1 f3 f4 f5, q⟩
theorem sw_trueD {kx vx : Expr} {gs : List Comprehension} {scope : Scope} {pos py : Pos} {y : Str} {l : Nat} {env : Env} (hk : env.scope.kind = .function) (hy : env.scope.names.lookup y = some .local) (hl : (py.line == pos.line) = true)
    (ha : (scope.names.any fun (n, k) => n == y && (k == .local || k == .cell)) = false) : swapsWith (.DictComp kx vx gs scope pos) (some (.Name y py)) l env = pure true := by
  have ky : env.kindOf y = some .local := hy
  have hb : env.blockKind = .function := by unfold Env.blockKind; rw [hk]; rfl
  unfold swapsWith
  simp only [hb, ky, ha, Expr.pos, hl]
  rfl
end
end My
namespace My
open PySem L2
theorem cut_mid (xs : List V) {n m : Nat} (h : m ≤ xs.length) : cutV xs (some (n : Int)) (some (m : Int)) = (xs.drop n).take (m - n) := by
  unfold cutV
  rw [HT.sIx_nat, HT.sIx_nat, Nat.min_eq_left h]
  by_cases h2 : n ≤ xs.length
  · rw [Nat.min_eq_left h2]
  · rw [Nat.min_eq_right (by omega), List.drop_eq_nil_of_le (Nat.le_refl _), List.drop_eq_nil_of_le (by omega), List.take_nil, List.take_nil]
theorem nodup_len : ∀ {l m : List Int}, l.Nodup → (∀ r ∈ l, r ∈ m) → l.length ≤ m.length
  | [], _, _, _ => Nat.zero_le _
  | x :: l, m, h, s => by
    obtain ⟨h1, h2⟩ := List.nodup_cons.mp h
    have hx := s x List.mem_cons_self
    have := nodup_len (m := m.erase x) h2 fun r hr => (List.mem_erase_of_ne (fun e : r = x => h1 (by rw [← e]; exact hr))).mpr (s r (List.mem_cons_of_mem _ hr))
    rw [List.length_erase_of_mem hx] at this
    have : 0 < m.length := List.length_pos_of_mem hx
    rw [List.length_cons]
    omega
/-- the keys of a dict of marks -/
structure FdOk (f : Int → Bool) (dom ks : List Int) : Prop where
  nd : ks.Nodup
  is : ∀ r, r ∈ ks ↔ f r = true
  dm : ∀ r ∈ ks, r ∈ dom
theorem FdOk.len {f : Int → Bool} {dom ks : List Int} (h : FdOk f dom ks) : ks.length ≤ dom.length := nodup_len h.nd h.dm
theorem FdOk.congr {f g : Int → Bool} {dom ks : List Int} (h : FdOk f dom ks) (e : ∀ r, f r = g r) : FdOk g dom ks := ⟨h.nd, fun r => by rw [h.is, e], h.dm⟩
theorem FdOk.put {f : Int → Bool} {dom ks : List Int} (h : FdOk f dom ks) {k : Int} (hk : k ∈ dom) : FdOk (fun r => if r = k then true else f r) dom (if k ∈ ks then ks else ks ++ [k]) :=
  ⟨put_nodup h.nd k, fun r => by
    rw [mem_put, h.is]
    by_cases e : r = k
    · simp [e]
    · simp [e], fun r hr => by
    rcases mem_put.mp hr with z | z
    · exact h.dm r z
    · exact z ▸ hk⟩
theorem FdOk.drop {f : Int → Bool} {dom ks : List Int} (h : FdOk f dom ks) (k : Int) : FdOk (fun r => if r = k then false else f r) dom (ks.filter fun n => decide (n ≠ k)) :=
  ⟨h.nd.sublist List.filter_sublist, fun r => by
    rw [List.mem_filter, h.is]
    by_cases e : r = k
    · simp [e]
    · simp [e], fun r hr => h.dm r (List.mem_filter.mp hr).1⟩
abbrev tt : Int → V := fun _ => .bl true
theorem putK_tt (k : Int) (ks : List Int) : putK (kvsOf ks tt) (Sum.inl k) (.bl true) = kvsOf (if k ∈ ks then ks else ks ++ [k]) tt := by
  rw [putK_kvs]
  exact kvs_congr fun n _ => by
    show (if n = k then V.bl true else .bl true) = .bl true
    split <;> rfl
theorem kvs_snoc (ks : List Int) (g : Int → V) (k : Int) (h : k ∉ ks) : putK (kvsOf ks g) (Sum.inl k) (g k) = kvsOf (ks ++ [k]) g := by
  rw [putK_kvs, if_neg h]
  exact kvs_congr fun n _ => by
    show (if n = k then g k else g n) = g n
    split
    · rename_i e
      rw [e]
    · rfl
theorem nodup_inj {ns : List Int} (h : ns.Nodup) {i j : Nat} (hi : i < ns.length) (hj : j < ns.length) (e : ns[i] = ns[j]) : i = j := by
  have hp := List.pairwise_iff_getElem.mp h
  rcases Nat.lt_trichotomy i j with z | z | z
  · exact absurd e (hp i j hi hj z)
  · exact z
  · exact absurd e.symm (hp j i hj hi z)
theorem nodup_take {ns : List Int} (h : ns.Nodup) (i : Nat) {x : Int} (hx : ns[i]? = some x) : x ∉ ns.take i := fun m => by
  obtain ⟨j, hj, e⟩ := List.getElem_of_mem m
  rw [List.length_take] at hj
  rw [List.getElem_take] at e
  obtain ⟨hi, e2⟩ := List.getElem?_eq_some_iff.mp hx
  have := nodup_inj h (i := j) (j := i) (by omega) hi (by rw [e, e2])
  omega
theorem idx_of {ns : List Int} (h : ns.Nodup) {i : Nat} {x : Int} (hx : ns[i]? = some x) : ns.idxOf x = i := by
  obtain ⟨hi, e2⟩ := List.getElem?_eq_some_iff.mp hx
  have hm : x ∈ ns := List.mem_of_getElem? hx
  have hlt := List.idxOf_lt_length_of_mem hm
  exact nodup_inj h (i := ns.idxOf x) (j := i) hlt hi (by rw [List.getElem_idxOf, e2])
theorem take_snoc {α : Type} {ns : List α} {i : Nat} {x : α} (hx : ns[i]? = some x) : ns.take (i + 1) = ns.take i ++ [x] := by
  rw [List.take_add_one, hx]
  rfl
theorem foldl_take {α β : Type} {f : β → α → β} {b : β} {cs : List α} {i : Nat} {c : α} (h : cs[i]? = some c) : (cs.take (i + 1)).foldl f b = f ((cs.take i).foldl f b) c := by
  rw [take_snoc h, List.foldl_append]
  rfl
theorem peBMK {X : Cx} {K : PySem.W.Frag} (h : X.K = K) {e : Expr} {T : String} {r : V → List V → Hp → VK → Prop} {to : TE} {t : TA} (p : PE X e (tBM X.K T r to t)) : PE X e (tBM K T r to t) := h ▸ p
theorem peBM0K {X : Cx} {K : PySem.W.Frag} (h : X.K = K) {e : Expr} {T : String} {r : V → List V → Hp → VK → Prop} {to : TE} (p : PE X e (tBM0 X.K T r to)) : PE X e (tBM0 K T r to) := h ▸ p
section
variable {X : Cx} {e : Expr} {te : L2.St → Hp → (Int → Int → Hp → Prop) → Prop}
def tCutR (te : L2.St → Hp → (Int → Int → Hp → Prop) → Prop) : L2.St → Hp → (Int → Int → Hp → Prop) → Prop := fun σ H Q => ∃ M : Int → Int → Hp → Prop, te σ H M ∧ ∀ a b H', M a b H' → Q a b H'
theorem prg_cut (h : PRg X e te) : PRg X e (tCutR te) := fun pins s σ H Q I ⟨M, hm, hq⟩ => thn (h pins s σ H M I hm) fun x s1 ⟨r, a, b, t, u, v, H', e1, e2, I1, q⟩ => ⟨r, a, b, t, u, v, H', e1, e2, I1, hq a b H' q⟩
def tLstRgG (te : L2.St → Hp → (Int → Int → Hp → Prop) → Prop) : TE := fun σ H Q => te σ H fun a b H1 => RgOk a b ∧ New (.lst (rgV a b)) H1 Q
/-- list(range(..)) -/
theorem pe_listRgG {p pos : Pos} (hc : X.calm = true) (hg : Gl X "list") (hm : X.mg "list" = none) (he : PRg X e te) (na : PySem.starEach [e] X.env = (false, PySem.eval e X.env) :: PySem.starEach [] X.env := by rfl) : PE X (.Call (.Name "list" p) [e] [] pos) (tLstRgG te) :=
  pe_weak (pe_listRg hc hg hm (prg_cut he) na) fun σ H Q q => ⟨_, q, fun _ _ _ z => ⟨z.1, fun p hp => z.2.go p hp⟩⟩
/-- the ints 0 .. n - 1 -/
def upN (n : Nat) : List Int := (List.range n).map fun i => ((i : Nat) : Int)
theorem rgV_upN (n : Nat) : rgV 0 (n : Int) = (upN n).map V.int := by
  unfold rgV upN
  rw [List.map_map]
  have e : ((n : Int) - 0).toNat = n := by omega
  rw [e]
  exact List.map_congr_left fun i _ => by
    show V.int (0 + (i : Int)) = V.int (i : Int)
    rw [Int.zero_add]
theorem upN_len (n : Nat) : (upN n).length = n := by
  unfold upN
  rw [List.length_map, List.length_range]
theorem upN_mem {n : Nat} {r : Int} (h : r ∈ upN n) : 0 ≤ r ∧ r < n := by
  unfold upN at h
  obtain ⟨i, hi, rfl⟩ := List.mem_map.mp h
  have := List.mem_range.mp hi
  omega
theorem upN_nodup (n : Nat) : (upN n).Nodup := by
  unfold upN
  show List.Pairwise _ _
  rw [List.pairwise_map]
  exact List.nodup_range.imp fun h => by omega
end
end My
set_option Elab.async false
set_option linter.all false
set_option maxRecDepth 100000
set_option maxHeartbeats 4000000
/-! repr: how long what is shown can be; repr of any data without dicts. -/
namespace My
open PySem PySem.Spec PyProof.Rows L2
/-- data that can be shown, no deeper than n, in at most M signs -/
structure Shw (d : PyData) (n M : Nat) : Prop where
  sh : d.showable = true
  nd : d.hasDict = false
  dp : d.depth ≤ n
  ln : d.shown.length ≤ M
theorem Shw.mono {d : PyData} {n m M L : Nat} (h : Shw d n M) (h1 : n ≤ m) (h2 : M ≤ L) : Shw d m L := ⟨h.sh, h.nd, Nat.le_trans h.dp h1, Nat.le_trans h.ln h2⟩
theorem log_of {i : Int} (h : i.natAbs < 2 ^ 1900) : i.natAbs.log2 < 1920 := by
  have := PySem.Flt.log2_lt_of (k := 1900) (by decide) h
  omega
theorem Shw.int {i : Int} (h : i.natAbs.log2 < 1920) : Shw (.int i) 0 1921 := ⟨decide_eq_true h, rfl, Nat.le_refl _, by
  show (Str.ofString (toString i)).length ≤ 1921
  rw [PySem.ofString_length]
  exact int_text_length_le (k := 1920) (by decide) h⟩
theorem Shw.none : Shw .none 0 4 := ⟨rfl, rfl, Nat.le_refl _, by decide⟩
theorem Shw.bool (b : Bool) : Shw (.bool b) 0 5 := ⟨rfl, rfl, Nat.le_refl _, by cases b <;> decide⟩
theorem textFrom_le : ∀ (ts : List Str) (k : Nat) (acc : Str), (textFrom k acc ts).length ≤ acc.length + piled ts
  | [], k, acc => by
    show acc.length ≤ acc.length + piled []
    omega
  | t :: r, k, acc => by
    have ih := textFrom_le r (k + 1) (acc ++ (if k > 0 then ", " else "" : String) ++ t)
    have l2 : (if k > 0 then 2 else 0) ≤ 2 := by split <;> omega
    have e : (acc ++ (if k > 0 then ", " else "" : String) ++ t).length = acc.length + (if k > 0 then 2 else 0) + t.length := by
      rw [Str.length_append, Str.length_append]
      split <;> rfl
    rw [e] at ih
    show (textFrom (k + 1) (acc ++ (if k > 0 then ", " else "" : String) ++ t) r).length ≤ _
    rw [piled_cons]
    omega
theorem piled_le {M : Nat} : ∀ ts : List Str, (∀ t ∈ ts, t.length ≤ M) → piled ts ≤ ts.length * (M + 2)
  | [], _ => Nat.zero_le _
  | t :: r, h => by
    have ih := piled_le r fun x hx => h x (List.mem_cons_of_mem _ hx)
    have := h t List.mem_cons_self
    rw [piled_cons, List.length_cons, Nat.succ_mul]
    omega
theorem all_of {n M : Nat} : ∀ {xs : List PyData}, (∀ x ∈ xs, Shw x n M) → PyData.showableAll xs = true ∧ PyData.hasDictAll xs = false ∧ PyData.depthAll xs ≤ n ∧ (PyData.shownAll xs).length = xs.length ∧ ∀ t ∈ PyData.shownAll xs, t.length ≤ M
  | [], _ => ⟨rfl, rfl, Nat.zero_le _, rfl, fun t ht => by cases ht⟩
  | x :: xs, h => by
    obtain ⟨h1, h2, h3, h4, h5⟩ := all_of (xs := xs) fun y hy => h y (List.mem_cons_of_mem _ hy)
    have hx := h x List.mem_cons_self
    refine ⟨?_, ?_, ?_, ?_, fun t ht => ?_⟩
    · show (PyData.showable x && PyData.showableAll xs) = true
      rw [hx.sh, h1]
      rfl
    · show (PyData.hasDict x || PyData.hasDictAll xs) = false
      rw [hx.nd, h2]
      rfl
    · exact Nat.max_le.mpr ⟨hx.dp, h3⟩
    · show (PyData.shownAll xs).length + 1 = xs.length + 1
      rw [h4]
    · rcases List.mem_cons.mp (show t ∈ PyData.shown x :: PyData.shownAll xs from ht) with z | z
      · rw [z]
        exact hx.ln
      · exact h5 t z
theorem Shw.list {n M : Nat} {xs : List PyData} (h : ∀ x ∈ xs, Shw x n M) : Shw (.list xs) (n + 1) (2 + xs.length * (M + 2)) := by
  obtain ⟨h1, h2, h3, h4, h5⟩ := all_of h
  refine ⟨h1, h2, by show PyData.depthAll xs + 1 ≤ n + 1; omega, ?_⟩
  show (textFrom 0 "[" (PyData.shownAll xs) ++ ("]" : Str)).length ≤ _
  have a := textFrom_le (PyData.shownAll xs) 0 "["
  have b := piled_le _ h5
  have e1 : ((("[" : String) : Str)).length = 1 := rfl
  have e2 : ((("]" : String) : Str)).length = 1 := rfl
  rw [Str.length_append, e2]
  rw [e1] at a
  rw [h4] at b
  omega
theorem Shw.tuple {n M : Nat} {xs : List PyData} (h : ∀ x ∈ xs, Shw x n M) : Shw (.tuple xs) (n + 1) (3 + xs.length * (M + 2)) := by
  obtain ⟨h1, h2, h3, h4, h5⟩ := all_of h
  refine ⟨h1, h2, by show PyData.depthAll xs + 1 ≤ n + 1; omega, ?_⟩
  show (tupleText (PyData.shownAll xs)).length ≤ _
  have b := piled_le _ h5
  unfold tupleText
  rw [Str.length_append, Str.length_append]
  have e1 : ((("(" : String) : Str)).length = 1 := rfl
  have e3 : (((if (PyData.shownAll xs).length == 1 then ",)" else ")" : String) : Str)).length ≤ 2 := by split <;> decide
  rw [e1]
  rw [h4] at b
  by_cases z : PyData.shownAll xs = []
  · rw [z] at e3 ⊢
    have : (Str.join ", " ([] : List Str)).length = 0 := rfl
    omega
  · have := join_length_add _ z
    omega
/-- ints within some bits -/
def Bd (b : Nat) (ns : List Int) : Prop := ∀ n ∈ ns, n.natAbs < 2 ^ b
theorem Shw.ints {b : Nat} {ns : List Int} (hb : b ≤ 1900) (h : Bd b ns) : Shw (eL PyData.int ns) 1 (2 + ns.length * 1923) := by
  have := Shw.list (n := 0) (M := 1921) (xs := ns.map PyData.int) fun x hx => by
    obtain ⟨n, hn, rfl⟩ := List.mem_map.mp hx
    exact Shw.int (log_of (Nat.lt_of_lt_of_le (h n hn) (Nat.pow_le_pow_right (by decide) hb)))
  rw [List.length_map] at this
  exact this
section
variable {X : Cx}
/-- repr of any data without dicts -/
def rReprA (K : PySem.W.Frag) : List V → Hp → VK → Prop := fun vs H Q => ∃ (v : V) (d : PyData), vs = [v] ∧ Dp K H v d ∧ Shw d 60 sizeLine ∧ Q (.str d.shown) H
theorem cr_reprA (gd : X.A.guards = some []) (hu : X.A.units + 64 < cLine) : CallR X (.builtin "repr") (rReprA X.K) := by
  intro pins s σ H vs us Q I r h
  obtain ⟨v, d, rfl, hd, sw, q⟩ := h
  obtain ⟨u, rfl, ru⟩ := vals1 r
  cases hd with
  | non =>
    cases ru
    exact PySem.P.repr_of_none ⟨.str _, H, I.tok _, ⟨_, rfl⟩, q⟩
  | bl b =>
    cases ru
    exact PySem.P.repr_of_bool ⟨.str _, H, I.tok _, ⟨_, rfl⟩, q⟩
  | int i =>
    obtain ⟨t, rfl⟩ := ru
    exact PySem.P.repr_of_int (of_decide_eq_true sw.sh) ⟨.str _, H, I.tok _, ⟨_, rfl⟩, q⟩
  | str x =>
    obtain ⟨t, rfl⟩ := ru
    exact PySem.P.repr_of_str ⟨.str _, H, I.tok _, ⟨_, rfl⟩, q⟩ sw.ln
  | lst h1 h2 => exact cr_repr gd hu pins s σ H _ _ Q I r ⟨_, _, rfl, .lst h1 h2, sw.sh, sw.nd, sw.dp, sw.ln, ⟨_, rfl⟩, q⟩
  | tup h1 h2 => exact cr_repr gd hu pins s σ H _ _ Q I r ⟨_, _, rfl, .tup h1 h2, sw.sh, sw.nd, sw.dp, sw.ln, ⟨_, rfl⟩, q⟩
end
end My
set_option Elab.async false
set_option linter.all false
set_option maxRecDepth 100000
set_option maxHeartbeats 4000000
/-! Own classes: len(o) by an own __len__, o == p and o != p by an own __eq__. -/
namespace My
open PySem PySem.Spec PyProof.Rows L2
section
variable {X : Cx} {CX : CXT} {n : Nat} {f C : Addr} {fd : FuncData} {ps : List Str} {sp : Sp} {E : XK}
/-- a def called with an around one deeper; what is raised does not leave -/
theorem run_in1 {pins : List (Addr × Obj)} {σ : L2.St} {H : Hp} {s : Shared} {Q : VK} {E' : Value → Shared → Prop} {us : List Value} {vs : List V} (F : FnOk X.prog X.w X.K X.mg X.base CX n f fd ps sp) (hr : Room (n + 1) X.A) (hb : Binds X.K fd ps []) (hx : Passes CX X.nox E)
    (I : Inv X pins σ H s) (r : Vals vs us) (h : sp vs H Q E) : wpAny (model X.prog X.w) X.A.in1 (call (.ref f) us) (EP X pins σ Q) E' s := by
  have hl : us.length = ps.length := by rw [← r.length]; exact F.len _ _ _ _ h
  have hb' := hb s us I.kIn (by rw [List.append_nil]; exact hl)
  rw [List.append_nil] at hb'
  refine wpAny_call (codeAny_mono (F.run X.A.in1 X.stack s H ⟨us, []⟩ us vs Q E hr.in1 I.env0.in1 hb' r h) fun r s' hq => ?_)
  cases r with
  | error er => exact False.elim (hx pins σ H s er s' (I.wish _) hq)
  | ok fl =>
    cases fl with
    | ret u => exact I.after hq
    | next => exact False.elim hq
    | brk => exact False.elim hq
    | cont => exact False.elim hq
def rLenO (C : Addr) (sp : Sp) (E : XK) : List V → Hp → VK → Prop := fun vs H Q => ∃ a dx fs, vs = [V.ref a] ∧ H a = some (.ins C dx fs) ∧ sp [.ref a] H (fun v H' => ∃ m : Int, v = .int m ∧ 0 ≤ m ∧ m < 2 ^ 63 ∧ Q (.int m) H') E
theorem cr_lenO (F : FnOk X.prog X.w X.K X.mg X.base CX n f fd ps sp) (hr : Room (n + 1) X.A) (hs : PySem.W.findIn X.K (.ref C) "__len__" = some (some (.ref f))) (hf : PySem.W.isFn X.K (.ref f) = true) (hb : Binds X.K fd ps []) (hx : Passes CX X.nox E) : CallR X (.builtin "len") (rLenO C sp E) := by
  intro pins s σ H vs us Q I r h
  obtain ⟨a, dx, fs, rfl, ha, h⟩ := h
  rw [Vals.ref1 r]
  obtain ⟨mA, J, _⟩ := ins_get I.hok ha
  obtain ⟨od, J, _⟩ := J.look
  obtain ⟨m, hF⟩ := I.fr
  refine PySem.W.len_K hF I.ok.mod.kin J hs hf (wpAny_mono (run_in1 (vs := [V.ref a]) F hr hb hx I (.cons rfl .nil) h) (fun u s' z => ?_) fun _ _ e => e)
  obtain ⟨v, H', I', rv, m, rfl, m0, m1, q⟩ := z
  obtain ⟨t, rfl⟩ := rv
  exact ⟨⟨m0, m1⟩, .int m, H', I'.tok _, ⟨_, rfl⟩, q⟩
def rEqO (C : Addr) (sp : Sp) (E : XK) : R2 := fun x y H Q => ∃ a b dx fs dy gs, x = .ref a ∧ y = .ref b ∧ H a = some (.ins C dx fs) ∧ H b = some (.ins C dy gs) ∧ sp [.ref a, .ref b] H (fun v H' => ∃ r : Bool, v = .bl r ∧ Q (.bl r) H') E
def rNeO (C : Addr) (sp : Sp) (E : XK) : R2 := fun x y H Q => ∃ a b dx fs dy gs, x = .ref a ∧ y = .ref b ∧ H a = some (.ins C dx fs) ∧ H b = some (.ins C dy gs) ∧ sp [.ref a, .ref b] H (fun v H' => ∃ r : Bool, v = .bl r ∧ Q (.bl (!r)) H') E
theorem run_here {pins : List (Addr × Obj)} {σ : L2.St} {H : Hp} {s : Shared} {Q : VK} {us : List Value} {vs : List V} (F : FnOk X.prog X.w X.K X.mg X.base CX n f fd ps sp) (hr : Room n X.A) (hb : Binds X.K fd ps []) (hx : Passes CX X E)
    (I : Inv X pins σ H s) (r : Vals vs us) (h : sp vs H Q E) : wpAny (model X.prog X.w) X.A (call (.ref f) us) (EP X pins σ Q) X.xe s := by
  have hl : us.length = ps.length := by rw [← r.length]; exact F.len _ _ _ _ h
  have hb' := hb s us I.kIn (by rw [List.append_nil]; exact hl)
  rw [List.append_nil] at hb'
  refine wpAny_call (codeAny_mono (F.run X.A X.stack s H ⟨us, []⟩ us vs Q E hr I.env0 hb' r h) fun r s' hq => ?_)
  cases r with
  | error er => exact hx pins σ H s er s' I hq
  | ok fl =>
    cases fl with
    | ret u => exact I.after hq
    | next => exact False.elim hq
    | brk => exact False.elim hq
    | cont => exact False.elim hq
theorem op_eqO (F : FnOk X.prog X.w X.K X.mg X.base CX n f fd ps sp) (hr : Room n X.A) (hs : PySem.W.findIn X.K (.ref C) "__eq__" = some (some (.ref f))) (hf : PySem.W.isFn X.K (.ref f) = true) (hb : Binds X.K fd ps []) (hx : Passes CX X E) : OpR X (compareOp .Eq) (rEqO C sp E) := by
  intro pins s σ H x y v u Q I rx ry h
  obtain ⟨a, b, dx, fs, dy, gs, rfl, rfl, ha, hb', h⟩ := h
  cases rx
  cases ry
  obtain ⟨mA, J, _⟩ := ins_get I.hok ha
  obtain ⟨mB, J', _⟩ := ins_get I.hok hb'
  obtain ⟨od, J, _⟩ := J.look
  obtain ⟨od', J', _⟩ := J'.look
  obtain ⟨m, hF⟩ := I.fr
  show wpAny (model X.prog X.w) X.A (richCompare .Eq (.ref a) (.ref b)) (EP X pins σ Q) X.xe s
  refine PySem.W.cmp_K (op := .Eq) (tb := .ref C) hr.units0 hF I.ok.mod.kin J J'.type (by simp [PySem.W.notFirst]) hs hf ?_
  refine wpAny_mono (run_here (vs := [V.ref a, V.ref b]) F hr hb hx I (.cons rfl (.cons rfl .nil)) h) (fun u s' z => ?_) fun _ _ e => e
  obtain ⟨v, H', I', rv, r, rfl, q⟩ := z
  cases rv
  exact ⟨.bl r, H', I', rfl, q⟩
theorem ifBound_objNe {M : Model} {A : Around} {E : Value → Shared → Prop} {s : Shared} {K : PySem.W.Frag} {x C : Addr} {ox : Obj} {od : Option Obj} {args : List Value} {Q : Option Value → Shared → Prop} (KX : K.In s.heap) (I : PySem.W.InstAt s.heap x ox C od) (hs : PySem.W.findIn K (.ref C) "__ne__" = some (some (.builtin "object.__ne__")))
    (h : wpAny M A (call (.builtin "object.__ne__") (.ref x :: args)) (fun v => Q (some v)) E s) : wpAny M A (callSpecialIfBound? (.ref x) "__ne__" args) Q E s := by
  simp only [callSpecialIfBound?, bindSpecialIfBound?]
  refine wpAny_holding (wpAny_bind (wpAny_bind (wpAny_bind (I.type.here ((PySem.W.looks_findIn KX hs).here ?_)))))
  refine wpAny_bind (wpAny_askSetting (wpAny_ite ?_))
  have fin : wpAny M A (call (.builtin "object.__ne__") ([.ref x] ++ args) >>= fun v => pure (some v)) Q E s := wpAny_bind (wpAny_mono h (fun v s' h' => wpAny_pure h') fun _ _ h' => h')
  split
  · exact wpAny_bind (wpAny_of_eq (F.cmp_object.ne.bind _) (wpAny_pure (by exact fin)))
  · exact wpAny_tryCatch (wpAny_bind (wpAny_of_eq (F.cmp_object.ne.bind _) (wpAny_pure (by exact fin))))
theorem op_neO (F : FnOk X.prog X.w X.K X.mg X.base CX n f fd ps sp) (hr : Room (n + 1) X.A) (hs : PySem.W.findIn X.K (.ref C) "__eq__" = some (some (.ref f))) (hn : PySem.W.findIn X.K (.ref C) "__ne__" = some (some (.builtin "object.__ne__"))) (hm : PySem.W.mroIn X.K C (.type "object") = some true) (hf : PySem.W.isFn X.K (.ref f) = true) (hb : Binds X.K fd ps []) (hx : Passes CX X.nox E) : OpR X (compareOp .NotEq) (rNeO C sp E) := by
  intro pins s σ H x y v u Q I rx ry h
  obtain ⟨a, b, dx, fs, dy, gs, rfl, rfl, ha, hb', h⟩ := h
  cases rx
  cases ry
  obtain ⟨mA, J, _⟩ := ins_get I.hok ha
  obtain ⟨mB, J', _⟩ := ins_get I.hok hb'
  obtain ⟨od, J, _⟩ := J.look
  obtain ⟨od', J', _⟩ := J'.look
  have KX := I.kIn
  show wpAny (model X.prog X.w) X.A (richCompare .NotEq (.ref a) (.ref b)) (EP X pins σ Q) X.xe s
  have one : wpAny (model X.prog X.w) X.A (tryCompare (.ref a) "__ne__" (.ref b)) (fun r s' => ∃ v, r = some v ∧ EP X pins σ Q v s') X.xe s := by
    unfold tryCompare
    refine wpAny_bind (ifBound_objNe KX J hn ?_)
    refine wpAny_call (codeAny_call_builtin PySem.F.cmp_object.ne.plain PySem.F.cmpEntry_ne (PySem.W.check_slot PySem.F.cmpKind_ne PySem.F.cmpSplit_ne (J.type.andThen (PySem.W.looks_mroIn KX hm)) (PySem.F.cmpArgs_ne _ _) ?_))
    unfold Builtin.«object.__ne__»
    refine wpAny_bind (wpAny_pure ?_)
    refine wpAny_bind (wpAny_cRoomFor (hr.in1).units0 ?_)
    refine wpAny_bind (m := callSpecialIfBound? (.ref a) (Str.ofString "__eq__") _) (PySem.W.ifBound_K KX J hs hf (wpAny_mono (run_in1 (vs := [V.ref a, V.ref b]) F hr hb hx I (.cons rfl (.cons rfl .nil)) h) (fun u s' z => ?_) fun _ _ e => e))
    obtain ⟨v, H', I', rv, r, rfl, q⟩ := z
    cases rv
    show wpAny _ X.A.in1 (truthy (.bool r) >>= _) _ _ s'
    refine wpAny_bind (wpAny_truthy_bool ?_)
    refine wpAny_pure ?_
    show wpAny _ X.A _ _ _ s'
    exact wpAny_pure ⟨_, rfl, .bl (!r), H', I', rfl, q⟩
  unfold richCompare
  simp only [oneThing_ref]
  refine wpAny_holding (wpAny_bind (wpAny_cRoomFor hr.units0 ?_))
  refine wpAny_bind (J.type.here (wpAny_bind (J'.type.here ?_)))
  split
  · rename_i q
    simp at q
  · refine wpAny_bind (wpAny_pure ?_)
    simp only [Bool.false_eq_true, if_false]
    refine wpAny_bind (wpAny_mono one (fun r s' z => ?_) fun _ _ e => e)
    obtain ⟨v, rfl, hq⟩ := z
    exact wpAny_pure hq
theorem pe_fldK {K : PySem.W.Frag} (h : X.K = K) {e : Expr} {g : Str} {ta : TE} (p : PE X e (tFld X.K ta g)) : PE X e (tFld K ta g) := h ▸ p
/-- tuple(x): of a list a new one, of a tuple itself -/
def rTupleA (K : PySem.W.Frag) : List V → Hp → VK → Prop := fun xs H Q => ∃ p ys, xs = [V.ref p] ∧ ((SqL K H p ys ∧ New (.tup ys) H Q) ∨ (SqT K H p ys ∧ Q (.ref p) H))
theorem call_tupleA : CallR X (.type "tuple") (rTupleA X.K) := fun pins s σ H xs us Q I r ⟨p, ys, h1, h2⟩ => call_tuple_of pins s σ H xs us Q I r ⟨p, ys, h1, h2.imp (fun z => ⟨z.1, fun l hl => z.2.go l hl⟩) id⟩
end
end My
set_option Elab.async false
set_option linter.all false
set_option maxRecDepth 100000
set_option maxHeartbeats 4000000
/-! sorted(xs) of any alike data (tuples, lists, texts, ints, nested), as a rule of the hand layer. -/
namespace My
open PySem PySem.Spec PyProof.Rows L2
open PySem.W (EachIs AllAlike Sortable dataKind sortVals KeyedOut dataLe)
/-- the values sorted by their data -/
def zsort (xs : List V) (ds : List PyData) : List V := ((xs.zip ds).mergeSort (dataLe false (·.2))).map (·.1)
def dsort (ds : List PyData) : List PyData := ds.mergeSort (dataLe false fun d => d)
theorem zsort_len {xs : List V} {ds : List PyData} (h : xs.length = ds.length) : (zsort xs ds).length = xs.length := by
  unfold zsort
  rw [List.length_map, List.length_mergeSort, List.length_zip, h, Nat.min_self]
theorem each_reads {h : Heap} : ∀ {vs : List Value} {ds : List PyData} {as : List Addr}, ReadsAll h vs ds as → EachIs (fun v d => ∃ as, Reads h v d as) vs ds
  | _, _, _, .nil => .nil
  | _, _, _, .cons h t => .cons ⟨_, h⟩ (each_reads t)
theorem each_vals : ∀ {us : List Value} {ps : List (V × PyData)}, EachIs (fun (u : Value) (p : V × PyData) => RelV p.1 u) us ps → Vals (ps.map (·.1)) us
  | _, _, .nil => .nil
  | _, _, .cons h t => .cons h (each_vals t)
theorem each_zip : ∀ {xs : List V} {us : List Value} {ds : List PyData}, Vals xs us → xs.length = ds.length → EachIs (fun (u : Value) (p : V × PyData) => RelV p.1 u) us (xs.zip ds)
  | _, _, [], .nil, _ => .nil
  | _, _, _ :: _, .nil, h => by cases h
  | _, _, [], .cons _ _, h => by cases h
  | _, _, _ :: _, .cons h t, e => .cons h (each_zip t (by simpa using e))
theorem dpLen {K : PySem.W.Frag} {H : Hp} : ∀ {xs : List V} {ds : List PyData}, DpAll K H xs ds → xs.length = ds.length
  | _, _, .nil => rfl
  | _, _, .cons _ t => by simp [dpLen t]
section
variable {X : Cx}
def rSortedA (K : PySem.W.Frag) : List V → Hp → VK → Prop := fun vs H Q => ∃ (a : Addr) (xs : List V) (ds : List PyData), vs = [V.ref a] ∧ SqL K H a xs ∧ DpAll K H xs ds ∧ AllAlike ds ∧ Sortable ds ∧ (∀ d ∈ ds, d.depth ≤ 60) ∧ New (.lst (zsort xs ds)) H Q
theorem cr_sortedA (hu : X.A.units + 64 < cLine) : CallR X (.builtin "sorted") (rSortedA X.K) := by
  intro pins s σ H vs us Q I r h
  obtain ⟨a, xs, ds, rfl, hs, hd, hal, hso, hdep, q⟩ := h
  obtain ⟨its, rv, hl, hz⟩ := I.list hs
  rw [Vals.ref1 r]
  obtain ⟨as, hr⟩ := Dp.readsAll I ds xs its hd rv
  have hlen := dpLen hd
  have e0 := each_reads hr
  have e1 : EachIs (fun v d => ∃ as, Reads (PySem.W.sortingHeap (PySem.W.copyHeap s.heap its) (s.heap.objs.size + 1) its) v d as) its ds := e0.mono fun v d ⟨as, z⟩ => ⟨as, Reads.keeps (fun b o e => PySem.W.sorting_copy_old e) z⟩
  refine PySem.W.sorted_vals (κ := dataKind (PySem.W.sortingHeap (PySem.W.copyHeap s.heap its) (s.heap.objs.size + 1) its) ds) hl.isList (PySem.W.SortsAt.data (s := { s with heap := PySem.W.sortingHeap (PySem.W.copyHeap s.heap its) (s.heap.objs.size + 1) its }) e1 hal hso fun d m => ?_) (by rw [← rv.length]; exact hz) ?_
  · show X.A.units + 1 + 1 + d.depth < cLine
    have := hdep d m
    omega
  · have ez : (xs.zip ds).map (·.2) = ds := by
      rw [← List.zip_unzip (xs.zip ds)]
      simp [List.map_snd_zip, hlen]
    have ko : KeyedOut false ((xs.zip ds).map (·.2)) its (sortVals (dataKind (PySem.W.sortingHeap (PySem.W.copyHeap s.heap its) (s.heap.objs.size + 1) its) ds) false its its) := by
      rw [ez]
      exact ⟨_, its, hal, rfl, e1⟩
    have ev := each_vals (PySem.W.keyedOut_each (·.2) ko (each_zip rv hlen))
    obtain ⟨n, hn⟩ := sortedAll_at s.heap its (sortVals (dataKind (PySem.W.sortingHeap (PySem.W.copyHeap s.heap its) (s.heap.objs.size + 1) its) ds) false its its).toArray
    refine ⟨.ref _, upd H _ (.lst (zsort xs ds)), I.laid (t' := s.toks) (fun b o e => sortedAll_old e) (Nat.le_succ _) ⟨?_, _, n, ev, hn⟩, rfl, q.go _ (I.hok.fresh (Nat.le_succ _))⟩
    rw [zsort_len hlen]
    exact hz
/-- xs[::-1] -/
def tRevG (K : PySem.W.Frag) (te : TE) : TE := fun σ H Q => te σ H fun x H1 => ∃ a xs, x = .ref a ∧ SqL K H1 a xs ∧ New (.lst xs.reverse) H1 Q
theorem pe_revG {e : Expr} {te : TE} {k : Nat} {p1 p2 p3 pos : Pos} (he : PE X e te) : PE X (.Subscript e (.Slice none none (some (.UnaryOp .USub (.Constant (.int 1) k p1) p2)) p3) pos) (tRevG X.K te) :=
  pe_weak (pe_revL (pe_cut he)) fun σ H Q q => ⟨_, q, fun _ _ ⟨a, xs, h1, h2, h3⟩ => ⟨a, xs, h1, h2, fun p hp => h3.go p hp⟩⟩
theorem pe_revK {K : PySem.W.Frag} (h : X.K = K) {e : Expr} {te : TE} {k : Nat} {p1 p2 p3 pos : Pos} (he : PE X e te) : PE X (.Subscript e (.Slice none none (some (.UnaryOp .USub (.Constant (.int 1) k p1) p2)) p3) pos) (tRevG K te) := h ▸ pe_revG he
end
end My
set_option Elab.async false
set_option linter.all false
set_option maxRecDepth 100000
set_option maxHeartbeats 4000000
/-! Lists of objects, pair by pair; comprehensions that make objects; sorting of objects by their data. -/
namespace My
open PySem PySem.Spec PyProof.Rows L2
open PySem.W (AllAlike Sortable dataLe)
def AllR {α : Type} (R : V → α → Prop) (vs : List V) (xs : List α) : Prop := vs.length = xs.length ∧ ∀ (i : Nat) v x, vs[i]? = some v → xs[i]? = some x → R v x
section
variable {α β : Type} {R S : V → α → Prop} {vs us : List V} {xs ys : List α}
theorem AllR.nil : AllR R [] [] := ⟨rfl, fun i v x h => by cases h⟩
theorem AllR.mono (h : AllR R vs xs) (k : ∀ v x, R v x → S v x) : AllR S vs xs := ⟨h.1, fun i v x h1 h2 => k v x (h.2 i v x h1 h2)⟩
theorem AllR.get (h : AllR R vs xs) {i : Nat} {v : V} (hi : vs[i]? = some v) : ∃ x, xs[i]? = some x ∧ R v x := by
  have hlt : i < vs.length := (List.getElem?_eq_some_iff.mp hi).1
  have hr : xs[i]? = some (xs[i]'(by rw [← h.1]; exact hlt)) := List.getElem?_eq_getElem _
  exact ⟨_, hr, h.2 i v _ hi hr⟩
theorem AllR.row (h : AllR R vs xs) {i : Nat} {x : α} (hi : xs[i]? = some x) : ∃ v, vs[i]? = some v ∧ R v x := by
  have hlt : i < xs.length := (List.getElem?_eq_some_iff.mp hi).1
  have hr : vs[i]? = some (vs[i]'(by rw [h.1]; exact hlt)) := List.getElem?_eq_getElem _
  exact ⟨_, hr, h.2 i _ x hr hi⟩
theorem AllR.append (h : AllR R vs xs) (k : AllR R us ys) : AllR R (vs ++ us) (xs ++ ys) := by
  refine ⟨by simp [h.1, k.1], fun i v x h1 h2 => ?_⟩
  by_cases z : i < vs.length
  · rw [List.getElem?_append_left z] at h1
    rw [List.getElem?_append_left (by rw [← h.1]; exact z)] at h2
    exact h.2 i v x h1 h2
  · rw [List.getElem?_append_right (by omega)] at h1
    rw [List.getElem?_append_right (by rw [← h.1]; omega), ← h.1] at h2
    exact k.2 _ v x h1 h2
theorem AllR.one {v : V} {x : α} (h : R v x) : AllR R [v] [x] := ⟨rfl, fun i u y h1 h2 => by
  cases i with
  | zero =>
    cases h1
    cases h2
    exact h
  | succ n => cases h1⟩
theorem AllR.snoc (h : AllR R vs xs) {v : V} {x : α} (k : R v x) : AllR R (vs ++ [v]) (xs ++ [x]) := h.append (AllR.one k)
theorem AllR.take (h : AllR R vs xs) (n : Nat) : AllR R (vs.take n) (xs.take n) := by
  refine ⟨by simp [h.1], fun i v d h1 h2 => ?_⟩
  rw [List.getElem?_take] at h1 h2
  split at h1
  · rename_i z
    rw [if_pos z] at h2
    exact h.2 i v d h1 h2
  · cases h1
theorem AllR.dp {K : PySem.W.Frag} {H : Hp} {e : α → PyData} : ∀ {vs : List V} {xs : List α}, AllR R vs xs → (∀ v x, R v x → Dp K H v (e x)) → DpAll K H vs (xs.map e)
  | [], [], _, _ => .nil
  | [], _ :: _, h, _ => by cases h.1
  | _ :: _, [], h, _ => by cases h.1
  | v :: vs, x :: xs, h, k => .cons (k v x (h.2 0 v x rfl rfl)) (AllR.dp ⟨by simpa using h.1, fun i u y h1 h2 => h.2 (i + 1) u y h1 h2⟩ k)
/-- sorted objects, by the data of them -/
theorem AllR.sort (key : α → PyData) (h : AllR R vs xs) : AllR R (zsort vs (xs.map key)) (xs.mergeSort (dataLe false key)) := by
  have e1 : zsort vs (xs.map key) = ((vs.zip xs).mergeSort (fun p q => dataLe false key p.2 q.2)).map (·.1) := by
    unfold zsort
    have e : vs.zip (xs.map key) = (vs.zip xs).map (fun p => (p.1, key p.2)) := by
      rw [List.zip_map_right]
      rfl
    rw [e, ← List.map_mergeSort (r := fun p q => dataLe false key p.2 q.2) (fun _ _ _ _ => rfl), List.map_map]
    rfl
  have e2 : xs.mergeSort (dataLe false key) = ((vs.zip xs).mergeSort (fun p q => dataLe false key p.2 q.2)).map (·.2) := by
    rw [List.map_mergeSort (s := dataLe false key) (fun _ _ _ _ => rfl), List.map_snd_zip]
    rw [h.1]
    exact Nat.le_refl _
  rw [e1, e2]
  have hp := List.mergeSort_perm (vs.zip xs) (fun p q => dataLe false key p.2 q.2)
  generalize (vs.zip xs).mergeSort (fun p q => dataLe false key p.2 q.2) = Z at hp
  refine ⟨by simp, fun i v x h1 h2 => ?_⟩
  rw [List.getElem?_map] at h1 h2
  cases z : Z[i]? with
  | none => rw [z] at h1; cases h1
  | some p =>
    rw [z] at h1 h2
    cases h1
    cases h2
    have hm : p ∈ vs.zip xs := hp.mem_iff.mp (List.mem_of_getElem? z)
    obtain ⟨k, hk⟩ := List.getElem?_of_mem hm
    rw [List.getElem?_zip_eq_some] at hk
    exact h.2 k _ _ hk.1 hk.2
theorem none_of {H H' : Hp} {p : Addr} (e : Ex H H') (h : H' p = none) : H p = none := by
  cases z : H p with
  | none => rfl
  | some o => rw [e _ _ z] at h; cases h
theorem ne_some {H H' : Hp} {p D : Addr} (e : Ex H H') (h : H' p = none) (hD : H D ≠ none) : p ≠ D := fun z => hD (none_of e (z ▸ h))
/-- a comprehension without tests over a list, each element an object (or any value) that R tells -/
theorem lc_objL {K : PySem.W.Frag} {a : Addr} {xs : List V} {ys : List α} {R : Hp → V → α → Prop} {g : TG} {te : TE} {vs : List Nat} {σ : L2.St} {H1 : Hp} {D : Addr} {Qd : Hp → Prop} (hx : SqL K H1 a xs) (hD : H1 D = none) (hl : ys.length = xs.length) (hz : xs.length ≤ sizeLine)
    (st : ∀ H' H'' v y, R H' v y → Exj D H' H'' → R H'' v y)
    (he : ∀ (i : Nat) x y H', Ex H1 H' → H' D ≠ none → xs[i]? = some x → ys[i]? = some y → ∀ (N : VK) (Z : Hp → Prop), (∀ v H2, Ex H' H2 → R H2 v y → N v H2) → g x (wipe σ vs) H' fun σ2 H2 => wipe σ2 vs = wipe σ vs ∧ tYes σ2 H2 fun b H3 => if b = true then te σ2 H3 N else Z H3)
    (k : ∀ H' us, Ex H1 H' → H' D = some (.lst us) → AllR (R H') us ys → Qd H') :
    ∃ W : Nat → Nat → Hp → Prop, (∃ m, W 0 m (upd H1 D (.lst []))) ∧ ∀ i m H, W i m H →
      ((Itl K a).stop i H ∧ Qd H) ∨ ((Itl K a).go i H ∧ ∃ Nx : Hp → Prop, (∀ H', Nx H' → ∃ m', m' < m ∧ W (i + 1) m' H') ∧ ∀ x H', (Itl K a).yld i H x H' → g x (wipe σ vs) H' fun σ2 H2 => wipe σ2 vs = wipe σ vs ∧ tYes σ2 H2 fun b H3 =>
        if b = true then te σ2 H3 fun y H4 => ∃ acc, H4 D = some (.lst acc) ∧ acc.length < sizeLine ∧ Nx (upd H4 D (.lst (acc ++ [y]))) else Nx H3) := by
  refine lc_it (walk_list (K := K) (a := a) (xs := xs)) (fun i H' => ∃ us, Ex H1 H' ∧ H' D = some (.lst us) ∧ us.length = i ∧ AllR (R H') us (ys.take i)) ⟨[], Evl.Ex.new hD, upd_same, rfl, AllR.nil⟩ (fun i H' _ ⟨_, e, _⟩ => Evl.ex_l e hx) ?_ ?_
  · rintro i x H' H3 hi ⟨us, e', d', l', a'⟩ ⟨rfl, hv⟩
    have hy : ys[i]? = some (ys[i]'(by omega)) := List.getElem?_eq_getElem (by omega)
    refine he i x _ H3 e' (fun z => by rw [d'] at z; cases z) hv hy _ _ fun v H2 e2 r2 => ⟨us, e2 _ _ d', by omega, us ++ [v], Evl.Ex.mut (e'.trans e2) hD, upd_same, by simp [l'], ?_⟩
    rw [List.take_add_one, hy]
    have y1 : Exj D H2 (upd H2 D (.lst (us ++ [v]))) := (Exj.refl _ _).upd
    exact AllR.snoc (a'.mono fun u y r => st _ _ u y (st _ _ u y r (Exj.of e2)) y1) (st _ _ _ _ r2 y1)
  · rintro H' ⟨us, e', d', l', a'⟩
    rw [List.take_of_length_le (by omega)] at a'
    exact k H' us e' d' a'
end
end My
set_option Elab.async false
set_option linter.all false
set_option maxRecDepth 100000
set_option maxHeartbeats 4000000
/-! set(xs) of a list of ints as a set whose order is known; sorted(set(xs)); x in xs of nested data; a + b of own objects. -/
namespace My
open PySem PySem.Spec PyProof.Rows L2 PySem.SeqAt
abbrev nset (w : World) : Obj := { cls := .type "set", dict := none, data := .set #[] 0 (.fresh 0 0 (!w.params.followText "set-order")) }
section
variable {P : Program} {w : World} {A : Around} {E : Value → Shared → Prop} {s : Shared}
theorem call_set_lst {l : Addr} {xs : Array Value} (ns : List Int) {Q : Value → Shared → Prop} (hd : A.handled = none) (ha : s.heap.IsList l xs) (hi : IntsAre xs.toList ns) (hz : ns.length + 1 < scanBound)
    (k : ∀ (h1 : Heap) (tk c : Nat), SetR w h1 s.heap.objs.size (fun j => decide (j ∈ ns)) c → c ≤ ns.length → (∀ b o, s.heap.get? b = some o → h1.get? b = some o) → Q (.ref s.heap.objs.size) { s with heap := h1, toks := tk }) :
    wpAny (model P w) A (call (.type "set") [.ref l]) Q E s := by
  have nl : xs.size = ns.length := (Array.length_toList (xs := xs)).symm.trans hi.length
  obtain ⟨mc, ml, m0⟩ := F.called_set.mro; have m1 := F.called_set.made; have m2 := F.called_set.sub
  refine wpAny_call (codeAny_of_tree (show wpAny _ _ (callAny (.type "set") _) _ _ _ from wpAny_pure ⟨Code.quiet_builtin _ (by decide +kernel), codeAny_builtin F.entry_type_call ?_⟩))
  rw [Around.under_plain (weight_type_call_type "set" [.ref l] []) (by rfl)]
  have m3 := F.called_set.notType; have m4 := F.called_set.canCreate; have m5 := F.typeCall_set_1 (.ref l)
  repeat (any_goals (first | assumption | wp_step))
  refine codeAny_mono (code_set_led1 (.ref l) (E := E) (Q₁ := fun o s1 => o = .ref s.heap.objs.size ∧ s1 = { s with heap := s.heap.push (nset w) }) ⟨rfl, rfl⟩) fun r s1 hr => ?_
  rcases r with e | fl
  · exact hr
  rcases fl with _ | _ | _ | ob
  all_goals first | exact hr.elim | skip
  obtain ⟨rfl, rfl⟩ := hr
  have gS : (s.heap.push (nset w)).get? s.heap.objs.size = some (nset w) := Heap.get?_push_size _ rfl
  have tS : Shared.TypeIs { s with heap := s.heap.push (nset w) } (.ref s.heap.objs.size) "set" := ⟨_, gS, rfl⟩
  have m6 := F.called_set.init.lookup; have m7 := F.called_set.init.bind (.ref s.heap.objs.size)
  repeat (any_goals (first | assumption | wp_step))
  refine codeAny_mono (codeAny_call_builtin (R := wants (fun r s2 => r = .none ∧ ∃ h1 tk c, s2 = { s with heap := h1, toks := tk } ∧ SetR w h1 s.heap.objs.size (fun j => decide (j ∈ ns)) c ∧ c ≤ ns.length ∧ ∀ b o, s.heap.get? b = some o → h1.get? b = some o) E) F.called_set.init.plain F.entry_set_init (check_set_init_1 tS ?_)) fun r2 s2 hr2 => ?_
  · obtain ⟨⟨oc, od, ot, os⟩, ho, c1, m, c2⟩ := ha
    simp only at c1 c2
    subst c1; subst c2
    have ho1 : (s.heap.push (nset w)).get? l = some ⟨.type "list", od, .seq xs m, os⟩ := Heap.get?_push_of_some _ ho
    have b1 := F.sub_list_set; have b2 := F.sub_list_frozenset; have b3 : (Value.type "list" == Value.type "dict") = false := by decide
    have hl1 : (s.heap.push (nset w)).IsList l xs := ⟨_, ho1, rfl, m, rfl⟩
    unfold Builtin.«set.__init__» noKeywords Builtin.Frozenset.updateFrom
    generalize hI : pyIter = PI
    wp_walk
    subst hI
    refine wpAny_pyIter_list hl1 (wpAny_bind (wpAny_runValue ?_))
    have lS : l < s.heap.objs.size := Heap.lt_size ho
    have d3 : A.in1.in1.in1.handled = none := by simp [hd]
    have e1 : (s.heap.push (nset w)).objs.size = s.heap.objs.size + 1 := Heap.size_push ..
    have lI : l ≠ (s.heap.push (nset w)).objs.size := by rw [e1]; exact Nat.ne_of_lt (Nat.lt_succ_of_lt lS)
    have nf : s.heap.objs.size ∉ [(s.heap.push (nset w)).objs.size, l] := by
      rw [e1]; intro z
      rcases List.mem_cons.mp z with q | q
      · exact absurd q (Nat.ne_of_lt (Nat.lt_succ_self _))
      · exact absurd (List.mem_singleton.mp q) (Nat.ne_of_gt lS)
    have vs : ∀ (i : Nat) (v : Value), xs[i]? = some v → ∃ k t, ns[i]? = some k ∧ v = .int k t := fun i v hv => by
      have il : i < ns.length := nl ▸ (Array.getElem?_eq_some_iff.mp hv).1
      obtain ⟨t, e⟩ := hi.int_at i v (by simpa using hv)
      exact ⟨ns[i], t, List.getElem?_eq_getElem il, by rw [e, List.getD_eq_getElem?_getD, List.getElem?_eq_getElem il]; rfl⟩
    refine set_update_ints ((Walks.list d3 _ l lI xs).toS) s.heap.objs.size nf ns nl hz vs (xs.size - 0) 0 _ (by omega) (Nat.zero_le _) ⟨⟨_, Heap.get?_push_size _ rfl, rfl, rfl⟩, hl1.push _⟩ ⟨0, Nat.le_refl 0, setR_new_at (Heap.get?_push_of_some _ gS)⟩ ?_
    intro s3 c3 hm hc3 hS3
    obtain ⟨h3, g3, dr3, tk3, o3⟩ := s3
    have q1 : g3 = s.gens := hm.gens; have q2 : dr3 = s.drawn := hm.drawn; have q3 : o3 = s.os := hm.os
    subst q1; subst q2; subst q3
    refine (show wpAny _ _ _ _ _ _ from wpAny_pure (show wpAny _ _ (ret Value.none) _ _ _ from wpAny_pure ⟨rfl, h3, tk3, c3, rfl, hS3, nl ▸ hc3, fun b o e => ?_⟩))
    have bl : b < s.heap.objs.size := Heap.lt_size e
    refine hm.heap b o ?_ (Heap.get?_push_of_some _ (Heap.get?_push_of_some _ e))
    rw [e1]
    intro z
    rcases List.mem_cons.mp z with q | q
    · exact absurd q (Nat.ne_of_lt bl)
    · exact absurd (List.mem_singleton.mp q) (Nat.ne_of_lt (Nat.lt_succ_of_lt bl))
  · rcases r2 with e | fl
    · exact hr2
    rcases fl with _ | _ | _ | v
    all_goals first | exact hr2.elim | skip
    obtain ⟨rfl, h1, tk, c, rfl, hS, hc, hk⟩ := hr2
    repeat (any_goals (first | assumption | wp_step))
    exact k _ _ _ hS hc hk
end
section
variable {X : Cx}
/-- sorted(set(xs)) -/
def tSortSet (K : PySem.W.Frag) (ta : TE) : TE := fun σ H Q => ta σ H fun x H1 => ∃ (l : Addr) (ns : List Int), x = V.ref l ∧ SqL K H1 l (ns.map V.int) ∧ ns.length < 64 ∧ ∀ ms : List Int, ms.Pairwise (· < ·) → (∀ k, k ∈ ms ↔ k ∈ ns) → New (.lst (ms.map V.int)) H1 Q
theorem pe_sortSet {a : Expr} {ta : TE} {p p2 q pos : Pos} (hg : Gl X "sorted") (hm : X.mg "sorted" = none) (hg2 : Gl X "set") (hm2 : X.mg "set" = none) (ha : PE X a ta) (hc : X.calm = true := by rfl)
    (na : starEach [a] X.env = (false, eval a X.env) :: starEach [] X.env := by rfl) : PE X (.Call (.Name "sorted" p) [.Call (.Name "set" p2) [a] [] q] [] pos) (tSortSet X.K ta) := by
  refine ⟨fun pins s σ H Q I h => ?_⟩
  refine Call_ (ld_blt I hg hm (show bootBuiltins "sorted" = some (.builtin "sorted") by decide +kernel) (PyProof.Rows.callWith_builtin1 (PyProof.Rows.args_cons ?_ rfl) rfl rfl))
  refine Call_ (ld_blt I hg2 hm2 PyProof.Rows.boot_set (PyProof.Rows.callWith_type1 (PyProof.Rows.args_cons (thn (ha.run pins s σ H _ I h) fun v s1 ⟨x, H1, I1, r1, q1⟩ => PyProof.Rows.args_nil ?_) na) na rfl))
  obtain ⟨l, ns, rfl, hq, hz, q1⟩ := q1
  cases r1
  obtain ⟨its, r, pl, _⟩ := I1.list hq
  have hlen : its.length = ns.length := by rw [← r.length, List.length_map]
  refine call_set_lst ns (I1.ok.hd hc) pl.isList (by simpa using r.ints) (by unfold scanBound; omega) fun h1 tk c hS hc1 hk => ?_
  refine PyProof.Rows.args_nil ?_
  have I2 : Inv X pins σ H1 { s1 with heap := h1, toks := tk } := I1.kept hk
  refine sorted_set hS (I2.ok.hd hc) (by omega) fun s' p' out c' ms kp g o hp hgt hi hs hmem hl => ?_
  have ml : (ms.map V.int).length ≤ sizeLine := by rw [List.length_map, hl]; exact Nat.le_trans (show _ ≤ 64 by omega) (by decide)
  have hn : H1 p' = none := I2.hok.fresh hp
  have J : Inv X pins σ (upd H1 p' (.lst (ms.map V.int))) { ({ s1 with heap := h1, toks := tk } : Shared) with heap := s'.heap, gens := s'.gens, drawn := s'.drawn, toks := s'.toks } :=
    I2.call (ch := []) (Un.laid kp hp hn) (I2.hok.laid kp hp ⟨ml, out.toList, c', vals_of_ints hi, hgt⟩) (by rw [g]; exact I2.bare) (fun _ z => nomatch z)
  have e : s' = { ({ s1 with heap := h1, toks := tk } : Shared) with heap := s'.heap, gens := s'.gens, drawn := s'.drawn, toks := s'.toks } := by
    obtain ⟨_, _, _, _, _⟩ := s'
    cases o
    rfl
  rw [e]
  exact ⟨.ref p', _, J, rfl, (q1 ms hs (fun k => by rw [hmem]; simp)).go p' hn⟩
theorem u65 {k : Nat} {A : Around} (r : Room k A) : A.units + 65 < cLine := by have := r.un; omega
/-- x in xs, x not in xs of nested data -/
def rInD (neg : Bool) (K : PySem.W.Frag) : R2 := fun x y H Q => ∃ d ds, Dp K H x d ∧ Dp K H y (.list ds) ∧ SeqAt.shaped d = true ∧ SeqAt.shaped (.list ds) = true ∧ Q (.bl (if neg = true then !(ds.any fun e => PyData.eqv e d) else ds.any fun e => PyData.eqv e d)) H
theorem op_inD (hu : X.A.units + 65 < cLine) : OpR X (compareOp .In) (rInD false X.K) := by
  intro pins s σ H x y v u Q I rx ry ⟨d, ds, hd, he, sd, se, q⟩
  obtain ⟨as, r1⟩ := Dp.reads I d x v hd rx
  obtain ⟨bs, r2⟩ := Dp.reads I _ y u he ry
  exact in_list_reads r2 r1 (canLay_of_shaped se) (canLay_of_shaped sd) (room_in_shaped sd hu) ⟨.bl _, H, I, rfl, q⟩
theorem op_notInD (hu : X.A.units + 65 < cLine) : OpR X (compareOp .NotIn) (rInD true X.K) := by
  intro pins s σ H x y v u Q I rx ry ⟨d, ds, hd, he, sd, se, q⟩
  obtain ⟨as, r1⟩ := Dp.reads I d x v hd rx
  obtain ⟨bs, r2⟩ := Dp.reads I _ y u he ry
  exact notIn_list_reads r2 r1 (canLay_of_shaped se) (canLay_of_shaped sd) (room_in_shaped sd hu) ⟨.bl _, H, I, rfl, q⟩
variable {CX : CXT} {n : Nat} {f C : Addr} {fd : FuncData} {ps : List Str} {sp : Sp} {E : XK}
/-- a + b of an own class -/
def rAddO (C : Addr) (sp : Sp) (E : XK) : R2 := fun x y H Q => ∃ a b dx fs dy gs, x = .ref a ∧ y = .ref b ∧ H a = some (.ins C dx fs) ∧ H b = some (.ins C dy gs) ∧ sp [.ref a, .ref b] H (fun v H' => ∃ r, v = .ref r ∧ Q (.ref r) H') E
theorem op_addO (F : FnOk X.prog X.w X.K X.mg X.base CX n f fd ps sp) (hr : Room n X.A) (hs : PySem.W.findIn X.K (.ref C) "__add__" = some (some (.ref f))) (hf : PySem.W.isFn X.K (.ref f) = true) (hc : PySem.W.selfFirst X.K C = true) (hb : Binds X.K fd ps []) (hx : Passes CX X E) : OpR X (binaryOp .Add) (rAddO C sp E) := by
  intro pins s σ H x y v u Q I rx ry h
  obtain ⟨a, b, dx, fs, dy, gs, rfl, rfl, ha, hb', h⟩ := h
  cases rx
  cases ry
  obtain ⟨mA, J, _⟩ := ins_get I.hok ha
  obtain ⟨mB, J', _⟩ := ins_get I.hok hb'
  obtain ⟨od, J, _⟩ := J.look
  obtain ⟨od', J', _⟩ := J'.look
  obtain ⟨m, hF⟩ := I.fr
  refine PySem.W.binop_K (op := .Add) hF I.ok.mod.kin J J'.type hc hs hf ?_
  refine wpAny_mono (run_here (vs := [V.ref a, V.ref b]) F hr hb hx I (.cons rfl (.cons rfl .nil)) h) (fun u s' z => ?_) fun _ _ e => e
  obtain ⟨v, H', I', rv, r, rfl, q⟩ := z
  cases rv
  exact ⟨.ref r, H', I', rfl, q⟩
end
end My
set_option Elab.async false
set_option linter.all false
set_option maxRecDepth 100000
set_option maxHeartbeats 4000000
/-! [x for x in xs if t], xs a list of ints. -/
namespace My
open PySem PySem.Spec PyProof.Rows L2
theorem mapI_at {ts : List Int} {i : Nat} {x : V} (h : (ts.map V.int)[i]? = some x) : ∃ t, ts[i]? = some t ∧ x = V.int t := by
  rw [List.getElem?_map] at h
  cases q : ts[i]? with
  | none => rw [q] at h; cases h
  | some t => rw [q] at h; cases h; exact ⟨t, rfl, rfl⟩
theorem lc_filtI {K : PySem.W.Frag} {a : Addr} {ns : List Int} {p : Int → Bool} {j : Nat} {tt : TT} {te : TE} {vs : List Nat} {σ : L2.St} {H1 : Hp} {D : Addr} {Qd : Hp → Prop} (hx : SqL K H1 a (ns.map V.int)) (hD : H1 D = none) (hz : ns.length ≤ 1000)
    (hw : ∀ x, wipe ((wipe σ vs).set j (some x)) vs = wipe σ vs)
    (ht : ∀ n H', n ∈ ns → Ex H1 H' → ∀ R : Bool → Hp → Prop, (∀ H2, Ex H' H2 → R (p n) H2) → tt ((wipe σ vs).set j (some (.int n))) H' R)
    (he : ∀ n H' (N : VK), N (.int n) H' → te ((wipe σ vs).set j (some (.int n))) H' N)
    (k : ∀ H', Ex H1 H' → H' D = some (.lst ((ns.filter p).map V.int)) → Qd H') :
    ∃ W : Nat → Nat → Hp → Prop, (∃ m, W 0 m (upd H1 D (.lst []))) ∧ ∀ i m H, W i m H →
      ((Itl K a).stop i H ∧ Qd H) ∨ ((Itl K a).go i H ∧ ∃ Nx : Hp → Prop, (∀ H', Nx H' → ∃ m', m' < m ∧ W (i + 1) m' H') ∧ ∀ x H', (Itl K a).yld i H x H' → gName j x (wipe σ vs) H' fun σ2 H2 => wipe σ2 vs = wipe σ vs ∧ tt σ2 H2 fun b H3 =>
        if b = true then te σ2 H3 fun y H4 => ∃ acc, H4 D = some (.lst acc) ∧ acc.length < sizeLine ∧ Nx (upd H4 D (.lst (acc ++ [y]))) else Nx H3) := by
  refine lc_it (walk_list (K := K) (a := a) (xs := ns.map V.int)) (fun i H' => Ex H1 H' ∧ H' D = some (.lst (((ns.take i).filter p).map V.int))) ⟨Evl.Ex.new hD, upd_same⟩ (fun i H' _ z => Evl.ex_l z.1 hx) ?_ ?_
  · rintro i v HX H3 hi ⟨e3, d3⟩ ⟨rfl, hv⟩
    obtain ⟨n, hn, rfl⟩ := mapI_at hv
    rw [List.length_map] at hi
    refine ⟨hw _, ?_⟩
    show tt ((wipe σ vs).set j (some (.int n))) _ _
    refine ht n _ (List.mem_of_getElem? hn) e3 _ fun H4 e4 => ?_
    rw [take_snoc hn, List.filter_append, List.filter_cons]
    cases q : p n with
    | true =>
      refine iteT (he n _ _ ⟨_, e4 _ _ d3, ?_, Evl.Ex.mut (e3.trans e4) hD, ?_⟩)
      · rw [List.length_map]
        refine Nat.lt_of_le_of_lt (List.length_filter_le _ _) ?_
        rw [List.length_take]
        exact Nat.lt_of_le_of_lt (show _ ≤ 1000 by omega) (by decide)
      · rw [upd_same, List.map_append]
        rfl
    | false =>
      refine iteF ⟨e3.trans e4, ?_⟩
      rw [e4 _ _ d3]
      simp
  · rintro H' ⟨e', d'⟩
    rw [List.length_map, List.take_length] at d'
    exact k H' e' d'
end My
namespace My
open PySem PySem.Spec PyProof.Rows L2
/-- a walk within a comprehension -/
theorem piK {X : Cx} {K : PySem.W.Frag} {r : PySem.W.Frag → TE → TI} {tg it : Expr} {tl : TE} (h : X.K = K) (p : PI X tg it (r X.K tl)) : PI X tg it (r K tl) := h ▸ p
/-- lists of lists of ints, sorted -/
def srtL (L : List (List Int)) : List (List Int) := L.mergeSort (PySem.W.dataLe false (eL PyData.int))
theorem rowsLe : PySem.W.dataLe false (eL PyData.int : List Int → PyData) = fun p q => decide (p ≤ q) := PySem.W.dataLe_rows (β := List Int) id
theorem srtL_congr {A B : List (List Int)} (h : A.Perm B) : srtL A = srtL B := by
  unfold srtL
  rw [rowsLe]
  have pw : ∀ L : List (List Int), (L.mergeSort (fun p q => decide (p ≤ q))).Pairwise (· ≤ ·) := fun L => by
    have := List.pairwise_mergeSort (le := fun (p q : List Int) => decide (p ≤ q)) (fun a b c h1 h2 => by simp at *; exact List.le_trans h1 h2) (fun a b => by simpa using List.le_total a b) L
    exact this.imp fun h => by simpa using h
  exact List.Perm.eq_of_pairwise (le := (· ≤ ·)) (fun a b _ _ h1 h2 => List.le_antisymm h1 h2) (pw A) (pw B) ((List.mergeSort_perm _ _).trans (h.trans (List.mergeSort_perm _ _).symm))
theorem srtL_len (L : List (List Int)) : (srtL L).length = L.length := List.length_mergeSort ..
theorem inD_mem {α : Type} [DecidableEq α] {e : α → PyData} {n : Nat} (g : Good e n) (x : α) (L : List α) : ((L.map e).any fun d => PyData.eqv d (e x)) = decide (x ∈ L) := by
  rw [List.any_map, Bool.eq_iff_iff, List.any_eq_true, decide_eq_true_eq]
  constructor
  · rintro ⟨y, hy, h⟩
    have h : PyData.eqv (e y) (e x) = true := h
    rw [g.eqv] at h
    exact of_decide_eq_true h ▸ hy
  · intro h
    exact ⟨x, h, by show PyData.eqv (e x) (e x) = true; rw [g.eqv]; exact decide_eq_true rfl⟩
theorem alikeLs (cs : List (List Int)) : PySem.W.AllAlike (cs.map (eL PyData.int)) := PySem.W.AllAlike.of fun b b' => by
  unfold eL
  rw [PySem.W.alike]
  exact PySem.W.alike_ints b b'
theorem sortLs (cs : List (List Int)) : PySem.W.Sortable (cs.map (eL PyData.int)) := PySem.W.Sortable.others fun b => ⟨(by intro z; cases z), (by intro xs z; cases z)⟩
theorem depLs (cs : List (List Int)) : ∀ d ∈ cs.map (eL PyData.int), d.depth ≤ 60 := fun d hd => by
  obtain ⟨c, _, rfl⟩ := List.mem_map.mp hd
  have := (goodL goodI).dep c
  omega
end My
set_option Elab.async false
set_option linter.all false
set_option maxRecDepth 100000
set_option maxHeartbeats 4000000
/-! enumerate of a tuple. -/
namespace My
open PySem PySem.Spec PyProof.Rows L2
set_option maxHeartbeats 1000000 in
theorem meets_enumerate_newT (l : Addr) (items : Array Value) :
    Meets (Builtin.«enumerate.__new__» ⟨[.type "enumerate", .ref l], []⟩) (fun _ R s => s.heap.IsTuple l items ∧
      R (.ok (.ret (.ref (s.heap.push { cls := .type "tuple_iterator", data := .fields #[.ref l, .int 0 0] }).objs.size)))
        { s with heap := (s.heap.push { cls := .type "tuple_iterator", data := .fields #[.ref l, .int 0 0] }).push { cls := .type "enumerate", data := .fields #[.none, .bool false, .ref s.heap.objs.size, rawInt 0, .none, .none] } }) :=
  .of_wp fun prog w A R s h => by
    obtain ⟨hp, g, d, tk, os⟩ := s; obtain ⟨h1, h⟩ := h
    have hsub := sub_enumerate
    have q1 : ∀ {A' : Around} {E : Value → Shared → Prop} {Q : Value → Shared → Prop}, Q (.ref hp.objs.size) ⟨hp.push { cls := .type "tuple_iterator", data := .fields #[.ref l, .int 0 0] }, g, d, tk, os⟩ → wpAny (model prog w) A' (pyIter (.ref l)) Q E ⟨hp, g, d, tk, os⟩ :=
      fun q => (begins_tuple l items).iter prog w _ _ ⟨hp, g, d, tk, os⟩ _ h1 q
    wp_walk using q1
    refine wpAny_stack_any fun st => wpAny_pure ?_
    split
    · rename_i c _ _ _ _ _
      cases (c == Value.type "enumerate")
      · wp_walk using q1
        exact ⟨_, rfl, h⟩
      · wp_walk using q1
        exact ⟨_, rfl, h⟩
    · wp_walk using q1
      exact ⟨_, rfl, h⟩
section
variable {prog : Program} {w : World} {A : Around} {E : Value → Shared → Prop} {s : Shared}
theorem call_enumerate_tuple {l : Addr} {items : Array Value} {Q : Value → Shared → Prop} (hL : s.heap.IsTuple l items)
    (h : ∀ h', IsEnum h' (s.heap.objs.size + 1) s.heap.objs.size 0 .none → h'.IsTupleIter s.heap.objs.size l 0 → h'.objs.size = s.heap.objs.size + 2 →
      (∀ b o, s.heap.get? b = some o → h'.get? b = some o) → Q (.ref (s.heap.objs.size + 1)) { s with heap := h' }) :
    wpAny (model prog w) A (call (.type "enumerate") [.ref l]) Q E s := by
  refine callType_new F.called_enumerate (by decide) (F.typeCall_enumerate_1 _) (F.newCall_enumerate_1 _) (fun obj => F.args_object_init_2 obj _) F.entry_enumerate_new
    (meets_enumerate_newT l items) ⟨hL, ?_⟩
  have hz : (s.heap.push { cls := .type "tuple_iterator", data := .fields #[.ref l, .int 0 0] }).objs.size = s.heap.objs.size + 1 := Heap.size_push ..
  show _ ∧ _
  rw [hz]
  have he : IsEnum ((s.heap.push { cls := .type "tuple_iterator", data := .fields #[.ref l, .int 0 0] }).push
      { cls := .type "enumerate", data := .fields #[.none, .bool false, .ref s.heap.objs.size, rawInt 0, .none, .none] }) (s.heap.objs.size + 1) s.heap.objs.size 0 .none := by
    have := Heap.get?_push_size (s.heap.push { cls := .type "tuple_iterator", data := .fields #[.ref l, .int 0 0] })
      (o := { cls := .type "enumerate", data := .fields #[.none, .bool false, .ref s.heap.objs.size, rawInt 0, .none, .none] }) rfl
    rw [hz] at this; exact this
  refine ⟨⟨_, he, rfl⟩, h _ he ⟨_, Heap.get?_push_of_some _ (Heap.get?_push_size _ rfl), rfl, rfl⟩ (by rw [Heap.size_push, hz]) fun b o x => Heap.get?_push_of_some _ (Heap.get?_push_of_some _ x)⟩
end
/-- the tuple at a as it stands at each turn, each item in a new pair -/
def Itet (K : PySem.W.Frag) (a : Addr) : It :=
  ⟨fun i H => ∃ (xs : List V) (x : V), SqT K H a xs ∧ xs[i]? = some x, fun i H v H' => ∃ T x, v = .ref T ∧ H T = none ∧ H' = upd H T (.tup [.int (i : Nat), x]) ∧ ∀ xs, SqT K H a xs → xs[i]? = some x, fun i H => ∃ xs : List V, SqT K H a xs ∧ xs.length = i⟩
theorem tup_apart {h : Heap} {e it a : Addr} {items : Array Value} {n : Int} {old : Value} {i : Nat} (he : IsEnum h e it n old) (hit : h.IsTupleIter it a i) (p : h.IsTuple a items) : a ≠ it ∧ a ≠ e := by
  obtain ⟨o, ho, hc, _⟩ := p
  obtain ⟨o2, ho2, hc2, _⟩ := hit
  refine ⟨fun z => ?_, fun z => ?_⟩
  · subst z
    rw [ho] at ho2
    cases ho2
    rw [hc] at hc2
    exact absurd hc2 (by decide)
  · subst z
    have he : h.get? a = _ := he
    rw [ho] at he
    cases he
    exact absurd (show Value.type "enumerate" = Value.type "tuple" from hc) (by decide)
theorem turn_enumT {P : Program} {w : World} {K : PySem.W.Frag} {elts : List Expr} {kk : Nat} {tpos : Pos} (a e it : Addr) :
    Turn P w K (.Tuple elts kk tpos) (Itet K a) [e, it] e (fun i h => (∃ old, IsEnum h e it ((i : Nat) : Int) old) ∧ h.IsTupleIter it a i ∧ e ≠ it) where
  mem := by simp
  obj := fun i h st b hb => by
    obtain ⟨⟨old, he⟩, ⟨o, ho, hc, hd⟩, _⟩ := st
    have e' : b = e ∨ b = it := by simpa using hb
    rcases e' with z | z
    · rw [z]; exact ⟨_, he, fun v q => nomatch q⟩
    · rw [z]; exact ⟨o, ho, fun v q => by rw [hd] at q; cases q⟩
  keep := fun i h h' st k => let ⟨⟨old, he⟩, hi, hne⟩ := st; ⟨⟨old, k e (by simp) _ he⟩, hi.at fun o q => k it (by simp) o q, hne⟩
  item := by
    intro X hP hw hK hc i pins s σ H E I hf st hg
    subst hP hw hK
    obtain ⟨⟨old, he⟩, hit, hne⟩ := st
    obtain ⟨xs, x, hq, hx⟩ := hg
    obtain ⟨its, rv, p, hz⟩ := I.tuple hq
    obtain ⟨u, hu, ru⟩ := rv.get hx
    have hel : e < s.heap.objs.size := Heap.lt_size he
    have hil : it < s.heap.objs.size := by obtain ⟨_, q, _⟩ := hit; exact Heap.lt_size q
    obtain ⟨na1, na2⟩ := tup_apart he hit p
    have hlt : i < its.toArray.size := by
      rw [List.size_toArray]
      exact (List.getElem?_eq_some_iff.mp hu).1
    refine wpAny_pyNext_enum_itemC (Draws.tuple (show X.A.in1.handled = none from I.ok.hd hc) it a na1 its.toArray) he ⟨hit, p⟩ hlt hne (by simp [hne, na2.symm]) fun x' h' tk hP ho hst' hT hsz hk => ?_
    have ex : x' = u := by
      have hP : its.toArray[i]? = some x' := hP
      simp only [List.getElem?_toArray] at hP
      rw [hu] at hP
      exact (Option.some.inj hP).symm
    subst ex
    refine ⟨_, rfl, wpAny_letOwnedTupleGo_enum (s := { s with heap := h', toks := tk + 1 }) ho fun h'' he' sb => ?_⟩
    have hT2 : h''.get? s.heap.objs.size = some { cls := .type "tuple", data := .seq #[.int i tk, x'] } := (sb.2 _ (Nat.ne_of_gt hel)).trans hT
    have new : ObjOk X.prog X.w (upd H s.heap.objs.size (.tup [.int (i : Nat), x])) h'' s.heap.objs.size (.tup [.int (i : Nat), x]) :=
      ⟨by show 2 ≤ sizeLine; decide, [.int i tk, x'], .cons ⟨_, rfl⟩ (.cons ru .nil), ⟨_, hT2, rfl, _, rfl⟩⟩
    have I1 : Inv X pins σ (upd H s.heap.objs.size (.tup [.int (i : Nat), x])) { s with heap := h'', toks := tk + 1 } :=
      I.turnedNew (ch := [e, it]) (fun b ob hb q => (sb.2 b (fun z => hb (by simp [z]))).trans (hk b ob (fun z => hb (by simp [z])) (fun z => hb (by simp [z])) q)) hf (Nat.le_refl _) new
    refine ⟨.ref s.heap.objs.size, _, I1, rfl, ⟨_, x, rfl, I.hok.fresh (Nat.le_refl _), rfl, fun ys hy => by rw [I.tuple_inj hy hq]; exact hx⟩, ⟨⟨x', ?_⟩, hst'.1.at fun o q => (sb.2 it (Ne.symm hne)).trans q, hne⟩, fun b hb => ?_⟩
    · have e1 : ((i + 1 : Nat) : Int) = (i : Int) + 1 := by omega
      rw [e1]; exact he'
    · have hb' : b < s.heap.objs.size := by
        have e' : b = e ∨ b = it := by simpa using hb
        rcases e' with z | z
        · rw [z]; exact hel
        · rw [z]; exact hil
      rw [upd_ne (Nat.ne_of_lt hb')]
      exact (hf b hb).1
  done := by
    intro X hP hw hK hc i pins s σ H E I hf st hg
    subst hP hw hK
    obtain ⟨⟨old, he⟩, hit, hne⟩ := st
    obtain ⟨xs, hq, hx⟩ := hg
    obtain ⟨its, rv, p, hz⟩ := I.tuple hq
    obtain ⟨f0, f1, f2, f3, f4, f5⟩ := hf it (by simp)
    have hl := rv.length
    obtain ⟨na1, na2⟩ := tup_apart he hit p
    have en : i = its.toArray.size := by
      rw [List.size_toArray]
      omega
    subst en
    exact wpAny_pyNext_enum_endD (Draws.tuple (show X.A.in1.handled = none from I.ok.hd hc) it a na1 its.toArray) he ⟨hit, p⟩ fun h' eb => ⟨rfl, I.turned (t' := s.toks) (fun b o hb q => eb b o hb q) f0 f1 f3 f4 f5⟩
  self := fun A i s Q E st h => let ⟨⟨_, he⟩, _⟩ := st; wpAny_pyIter_enum he h
def iEnumT (K : PySem.W.Frag) (ta : TA) : TI := fun σ H R => ta σ H fun vs H1 => ∃ a xs, vs = [.ref a] ∧ SqT K H1 a xs ∧ R (Itet K a) H1
theorem pi_enumT {X : Cx} {e : Expr} {ta : TA} {p pos tpos : Pos} {elts : List Expr} {kk : Nat} (hg : Gl X "enumerate") (hm : X.mg "enumerate" = none) (ha : PA X [e] ta) (hs : starEach [e] X.env = [(false, eval e X.env)] := by rfl) :
    PI X (.Tuple elts kk tpos) (.Call (.Name "enumerate" p) [e] [] pos) (iEnumT X.K ta) := by
  refine ⟨fun pins s σ H R I h => ?_⟩
  refine Call_ (ld_blt I hg hm boot_enumerate (PyProof.Rows.callWith_type1 (thn (ha.run pos pins s σ H _ I h) fun us s1 ⟨vs, H1, I1, r1, q1⟩ => ?_) hs rfl))
  obtain ⟨a, xs, ex, hq, q⟩ := q1
  subst ex
  cases r1 with
  | cons r rr =>
    cases rr
    cases r
    obtain ⟨its, rv, p', hz⟩ := I1.tuple hq
    refine call_enumerate_tuple p' fun h' he hit hsz hk => wpAny_pyIter_enum he ?_
    have I2 : Inv X pins σ H1 { s1 with heap := h' } := I1.kept (t' := s1.toks) hk
    refine ⟨s1.heap.objs.size + 1, [s1.heap.objs.size + 1, s1.heap.objs.size], _, _, H1, rfl, I2, turn_enumT a (s1.heap.objs.size + 1) s1.heap.objs.size, ⟨⟨.none, he⟩, hit, Nat.succ_ne_self _⟩, fun b hb => ?_, q⟩
    have e' : b = s1.heap.objs.size + 1 ∨ b = s1.heap.objs.size := by simpa using hb
    have hle : s1.heap.objs.size ≤ b := by
      rcases e' with z | z
      · rw [z]; exact Nat.le_add_right _ _
      · rw [z]; exact Nat.le_refl _
    exact I1.fpOk hle (I1.hok.fresh hle)
theorem walk_enumT {K : PySem.W.Frag} {a : Addr} {xs : List V} : Walk (Itet K a) xs.length (fun H => SqT K H a xs) (YPair (fun i => some (.int (i : Nat))) (fun i => xs[i]?)) := by
  refine ⟨fun i _ hi q => ⟨xs, xs[i], q, by simp [hi]⟩, fun _ q => ⟨xs, q, rfl⟩, fun i H v H' _ q y => ?_⟩
  obtain ⟨T, x, h1, h2, h3, h4⟩ := y
  exact ⟨T, .int (i : Nat), x, h1, h2, h3, rfl, h4 xs q⟩
end My
set_option Elab.async false
set_option linter.all false
set_option maxRecDepth 100000
set_option maxHeartbeats 4000000
/-! len(set(xs)) of a list of ints with doubles. -/
namespace My
open PySem PySem.Spec PyProof.Rows L2
/-- so many different ones -/
def Diff (ns : List Int) (c : Nat) : Prop := ∃ ms : List Int, ms.Nodup ∧ (∀ k, k ∈ ms ↔ k ∈ ns) ∧ ms.length = c
def tLenSetG (K : PySem.W.Frag) (ta : TE) : TE := fun σ H Q => ta σ H fun x H1 => ∃ (l : Addr) (ns : List Int), x = V.ref l ∧ SqL K H1 l (ns.map V.int) ∧ ns.length ≤ 2000 ∧ ∀ c : Nat, Diff ns c → Q (.int (c : Nat)) H1
theorem pe_lenSetG {X : Cx} {a : Expr} {ta : TE} {p p2 q pos : Pos} (hg : Gl X "len") (hm : X.mg "len" = none) (hg2 : Gl X "set") (hm2 : X.mg "set" = none) (ha : PE X a ta) (hc : X.calm = true := by rfl)
    (na : starEach [a] X.env = (false, eval a X.env) :: starEach [] X.env := by rfl) : PE X (.Call (.Name "len" p) [.Call (.Name "set" p2) [a] [] q] [] pos) (tLenSetG X.K ta) := by
  refine ⟨fun pins s σ H Q I h => ?_⟩
  refine Call_ (ld_blt I hg hm boot_len ?_)
  refine PyProof.Rows.callWith_builtin1 (PyProof.Rows.args_cons ?_ rfl) rfl rfl
  refine Call_ (ld_blt I hg2 hm2 PyProof.Rows.boot_set ?_)
  refine PyProof.Rows.callWith_type1 (PyProof.Rows.args_cons (thn (ha.run pins s σ H _ I h) fun v s1 ⟨x, H1, I1, r1, q1⟩ => PyProof.Rows.args_nil ?_) na) na rfl
  obtain ⟨l, ns, rfl, hq, hz, q1⟩ := q1
  cases r1
  obtain ⟨its, r, pl, _⟩ := I1.list hq
  refine call_set_lst ns (I1.ok.hd hc) pl.isList (by simpa using r.ints) (by unfold scanBound; omega) fun h1 tk c hS hc1 hk => ?_
  refine PyProof.Rows.args_nil ?_
  obtain ⟨o, es, ep, t, ho, hex, hd, _, hnd, hS2, _, hf, hn, _⟩ := hS
  have I2 : Inv X pins σ H1 { s1 with heap := h1, toks := tk } := I1.kept hk
  refine call_len_set ho hex hd hf (by rw [hn]; omega) ⟨.int c, H1, I2.tok _, ⟨_, by rw [hn]⟩, q1 c ⟨es.toList.map keyOf, hnd, fun k => ?_, ?_⟩⟩
  · rw [← hS2 k]
    simp
  · rw [List.length_map, Array.length_toList]
    exact hn
theorem diff_nodup {ns : List Int} {c : Nat} (h : Diff ns c) : c = ns.length ↔ ns.Nodup := by
  obtain ⟨ms, h1, h2, h3⟩ := h
  subst h3
  constructor
  · intro e
    -- ms is nodup, the same members, as long: ns has no doubles
    have : ∀ {ns ms : List Int}, ms.Nodup → (∀ k, k ∈ ms → k ∈ ns) → ns.length ≤ ms.length → ns.Nodup := fun {ns} => by
      induction ns with
      | nil => intro ms _ _ _; exact List.nodup_nil
      | cons x ns ih =>
        intro ms hm hs hl
        have h0 : x ∈ ms ∧ x ∉ ns := by
          by_cases a : x ∈ ms
          · refine ⟨a, fun b => ?_⟩
            have := nodup_len (l := ms) (m := ns) hm fun k hk => by
              rcases List.mem_cons.mp (hs k hk) with z | z
              · rw [z]; exact b
              · exact z
            rw [List.length_cons] at hl
            omega
          · exfalso
            have := nodup_len (l := ms) (m := ns) hm fun k hk => by
              rcases List.mem_cons.mp (hs k hk) with z | z
              · rw [z] at hk; exact absurd hk a
              · exact z
            rw [List.length_cons] at hl
            omega
        refine List.nodup_cons.mpr ⟨h0.2, ih (ms := ms.erase x) (hm.erase x) (fun k hk => ?_) ?_⟩
        · have hk' := List.mem_of_mem_erase hk
          rcases List.mem_cons.mp (hs k hk') with z | z
          · rw [z] at hk
            exact absurd hk (fun y => (List.Nodup.mem_erase_iff hm).mp y |>.1 rfl)
          · exact z
        · rw [List.length_erase_of_mem h0.1]
          rw [List.length_cons] at hl
          omega
    exact this h1 (fun k hk => (h2 k).mp hk) (by omega)
  · intro hn
    exact Nat.le_antisymm (nodup_len h1 fun k hk => (h2 k).mp hk) (nodup_len hn fun k hk => (h2 k).mpr hk)
end My
set_option Elab.async false
set_option linter.all false
set_option maxRecDepth 100000
set_option maxHeartbeats 4000000
/-! further comprehensions over lists: any target; kept objects. -/
namespace My
open PySem PySem.Spec PyProof.Rows L2
/-- no tests, any target, the values known -/
theorem lc_mapG {K : PySem.W.Frag} {a : Addr} {xs ys : List V} {g : TG} {te : TE} {vs : List Nat} {σ : L2.St} {H1 : Hp} {D : Addr} {Qd : Hp → Prop} (hx : SqL K H1 a xs) (hD : H1 D = none) (hl : ys.length = xs.length) (hz : xs.length ≤ sizeLine)
    (he : ∀ (i : Nat) x y H', Ex H1 H' → xs[i]? = some x → ys[i]? = some y → ∀ (N : VK) (Z : Hp → Prop), (∀ H2, Ex H' H2 → N y H2) → g x (wipe σ vs) H' fun σ2 H2 => wipe σ2 vs = wipe σ vs ∧ tYes σ2 H2 fun b H3 => if b = true then te σ2 H3 N else Z H3)
    (k : ∀ H', Ex H1 H' → H' D = some (.lst ys) → Qd H') :
    ∃ W : Nat → Nat → Hp → Prop, (∃ m, W 0 m (upd H1 D (.lst []))) ∧ ∀ i m H, W i m H →
      ((Itl K a).stop i H ∧ Qd H) ∨ ((Itl K a).go i H ∧ ∃ Nx : Hp → Prop, (∀ H', Nx H' → ∃ m', m' < m ∧ W (i + 1) m' H') ∧ ∀ x H', (Itl K a).yld i H x H' → g x (wipe σ vs) H' fun σ2 H2 => wipe σ2 vs = wipe σ vs ∧ tYes σ2 H2 fun b H3 =>
        if b = true then te σ2 H3 fun y H4 => ∃ acc, H4 D = some (.lst acc) ∧ acc.length < sizeLine ∧ Nx (upd H4 D (.lst (acc ++ [y]))) else Nx H3) := by
  refine lc_objL (R := fun _ v (y : V) => v = y) hx hD hl hz (fun _ _ _ _ r _ => r) (fun i x y H' e _ hx hy N Z kN => he i x y H' e hx hy N Z fun H2 e2 => kN y H2 e2 rfl) fun H' us e d r => k H' e ?_
  have : us = ys := by
    refine List.ext_getElem? fun i => ?_
    cases z : us[i]? with
    | none => rw [List.getElem?_eq_none (by rw [← r.1]; exact List.getElem?_eq_none_iff.mp z)]
    | some v =>
      obtain ⟨y, h1, h2⟩ := r.get z
      rw [h1, h2]
  rw [← this]
  exact d
/-- the items of which p holds, themselves -/
theorem lc_filtO {α : Type} {K : PySem.W.Frag} {a : Addr} {xs : List V} {ys : List α} {R : V → α → Prop} {p : α → Bool} {j : Nat} {tt : TT} {te : TE} {vs : List Nat} {σ : L2.St} {H1 : Hp} {D : Addr} {Qd : Hp → Prop} (hx : SqL K H1 a xs) (hR : AllR R xs ys) (hD : H1 D = none) (hz : xs.length ≤ 1000)
    (hw : ∀ x, wipe ((wipe σ vs).set j (some x)) vs = wipe σ vs)
    (ht : ∀ v y H', y ∈ ys → R v y → Ex H1 H' → ∀ Z : Bool → Hp → Prop, (∀ H2, Ex H' H2 → Z (p y) H2) → tt ((wipe σ vs).set j (some v)) H' Z)
    (he : ∀ v H' (N : VK), N v H' → te ((wipe σ vs).set j (some v)) H' N)
    (k : ∀ H' us, Ex H1 H' → H' D = some (.lst us) → AllR R us (ys.filter p) → Qd H') :
    ∃ W : Nat → Nat → Hp → Prop, (∃ m, W 0 m (upd H1 D (.lst []))) ∧ ∀ i m H, W i m H →
      ((Itl K a).stop i H ∧ Qd H) ∨ ((Itl K a).go i H ∧ ∃ Nx : Hp → Prop, (∀ H', Nx H' → ∃ m', m' < m ∧ W (i + 1) m' H') ∧ ∀ x H', (Itl K a).yld i H x H' → gName j x (wipe σ vs) H' fun σ2 H2 => wipe σ2 vs = wipe σ vs ∧ tt σ2 H2 fun b H3 =>
        if b = true then te σ2 H3 fun y H4 => ∃ acc, H4 D = some (.lst acc) ∧ acc.length < sizeLine ∧ Nx (upd H4 D (.lst (acc ++ [y]))) else Nx H3) := by
  refine lc_it (walk_list (K := K) (a := a) (xs := xs)) (fun i H' => ∃ us, Ex H1 H' ∧ H' D = some (.lst us) ∧ us.length ≤ i ∧ AllR R us ((ys.take i).filter p)) ⟨[], Evl.Ex.new hD, upd_same, Nat.le_refl _, AllR.nil⟩ (fun i H' _ ⟨_, e, _⟩ => Evl.ex_l e hx) ?_ ?_
  · rintro i v HX H3 hi ⟨us, e3, d3, l3, a3⟩ ⟨rfl, hv⟩
    obtain ⟨y, hy, r⟩ := hR.get hv
    refine ⟨hw _, ?_⟩
    show tt ((wipe σ vs).set j (some v)) _ _
    refine ht v y _ (List.mem_of_getElem? hy) r e3 _ fun H4 e4 => ?_
    rw [take_snoc hy, List.filter_append, List.filter_cons]
    cases q : p y with
    | true =>
      refine iteT (he v _ _ ⟨us, e4 _ _ d3, Nat.lt_of_le_of_lt (show _ ≤ 1000 by omega) (by decide), us ++ [v], Evl.Ex.mut (e3.trans e4) hD, upd_same, by simp; omega, ?_⟩)
      exact AllR.snoc a3 r
    | false =>
      refine iteF ⟨us, e3.trans e4, e4 _ _ d3, by omega, ?_⟩
      simpa using a3
  · rintro H' ⟨us, e', d', l', a'⟩
    rw [List.take_of_length_le (by rw [← hR.1]; exact Nat.le_refl _)] at a'
    exact k H' us e' d' a'
/-- ints of a range, with a test -/
theorem lc_filtR {lo : Int} {n : Nat} {p : Int → Bool} {j : Nat} {tt : TT} {te : TE} {vs : List Nat} {σ : L2.St} {H1 : Hp} {D : Addr} {Qd : Hp → Prop} (hD : H1 D = none) (hz : n ≤ 1000)
    (hw : ∀ x, wipe ((wipe σ vs).set j (some x)) vs = wipe σ vs)
    (ht : ∀ (i : Nat) H', i < n → Ex H1 H' → ∀ Z : Bool → Hp → Prop, (∀ H2, Ex H' H2 → Z (p (lo + i)) H2) → tt ((wipe σ vs).set j (some (.int (lo + i)))) H' Z)
    (he : ∀ v H' (N : VK), N v H' → te ((wipe σ vs).set j (some v)) H' N)
    (k : ∀ H', Ex H1 H' → H' D = some (.lst ((((List.range n).map fun i => lo + ((i : Nat) : Int)).filter p).map V.int)) → Qd H') :
    ∃ W : Nat → Nat → Hp → Prop, (∃ m, W 0 m (upd H1 D (.lst []))) ∧ ∀ i m H, W i m H →
      ((Itr lo n).stop i H ∧ Qd H) ∨ ((Itr lo n).go i H ∧ ∃ Nx : Hp → Prop, (∀ H', Nx H' → ∃ m', m' < m ∧ W (i + 1) m' H') ∧ ∀ x H', (Itr lo n).yld i H x H' → gName j x (wipe σ vs) H' fun σ2 H2 => wipe σ2 vs = wipe σ vs ∧ tt σ2 H2 fun b H3 =>
        if b = true then te σ2 H3 fun y H4 => ∃ acc, H4 D = some (.lst acc) ∧ acc.length < sizeLine ∧ Nx (upd H4 D (.lst (acc ++ [y]))) else Nx H3) := by
  refine lc_range (fun i H' => Ex H1 H' ∧ H' D = some (.lst ((((List.range i).map fun i => lo + ((i : Nat) : Int)).filter p).map V.int))) ⟨Evl.Ex.new hD, upd_same⟩ ?_ ?_
  · rintro i H3 hi ⟨e3, d3⟩
    refine ⟨hw _, ?_⟩
    show tt ((wipe σ vs).set j (some (.int (lo + i)))) _ _
    refine ht i _ hi e3 _ fun H4 e4 => ?_
    rw [List.range_succ, List.map_append, List.filter_append, List.map_cons, List.map_nil, List.filter_cons]
    cases q : p (lo + i) with
    | true =>
      refine iteT (he _ _ _ ⟨_, e4 _ _ d3, ?_, Evl.Ex.mut (e3.trans e4) hD, ?_⟩)
      · rw [List.length_map]
        refine Nat.lt_of_le_of_lt (List.length_filter_le _ _) ?_
        rw [List.length_map, List.length_range]
        exact Nat.lt_of_le_of_lt (show _ ≤ 1000 by omega) (by decide)
      · rw [upd_same, List.map_append]
        rfl
    | false =>
      refine iteF ⟨e3.trans e4, ?_⟩
      rw [e4 _ _ d3]
      simp
  · rintro H' ⟨e', d'⟩
    exact k H' e' d'
end My
set_option Elab.async false
set_option linter.all false
set_option maxRecDepth 100000
set_option maxHeartbeats 4000000
/-! displays of lists and tuples all of whose parts are known data. -/
namespace My
open PySem PySem.Spec PyProof.Rows L2
mutual
theorem dpEx {K : PySem.W.Frag} {H H' : Hp} (e : Ex H H') : ∀ {v : V} {d : PyData}, Dp K H v d → Dp K H' v d
  | _, _, .non => .non
  | _, _, .bl b => .bl b
  | _, _, .int i => .int i
  | _, _, .str x => .str x
  | _, _, .lst h a => .lst (Evl.ex_l e h) (dpAllEx e a)
  | _, _, .tup h a => .tup (Evl.ex_t e h) (dpAllEx e a)
theorem dpAllEx {K : PySem.W.Frag} {H H' : Hp} (e : Ex H H') : ∀ {vs : List V} {ds : List PyData}, DpAll K H vs ds → DpAll K H' vs ds
  | _, _, .nil => .nil
  | _, _, .cons h a => .cons (dpEx e h) (dpAllEx e a)
end
theorem dpAll_len {K : PySem.W.Frag} {H : Hp} : ∀ {vs : List V} {ds : List PyData}, DpAll K H vs ds → vs.length = ds.length
  | _, _, .nil => rfl
  | _, _, .cons _ a => by simp [dpAll_len a]
theorem dpAll_app {K : PySem.W.Frag} {H : Hp} : ∀ {vs us : List V} {ds es : List PyData}, DpAll K H vs ds → DpAll K H us es → DpAll K H (vs ++ us) (ds ++ es)
  | _, _, _, _, .nil, b => b
  | _, _, _, _, .cons h a, b => .cons h (dpAll_app a b)
theorem dpAll_at {K : PySem.W.Frag} {H : Hp} : ∀ {vs : List V} {ds : List PyData} (_ : DpAll K H vs ds) {i : Nat} {v : V}, vs[i]? = some v → ∃ d, ds[i]? = some d ∧ Dp K H v d
  | _, _, .nil, i, v, h => by cases h
  | _, _, .cons h a, 0, v, e => by cases e; exact ⟨_, rfl, h⟩
  | _, _, .cons h a, i + 1, v, e => dpAll_at a e
def tLit (K : PySem.W.Frag) (d : PyData) : TE := fun σ H Q => ∀ v H', Ex H H' → Dp K H' v d → Q v H'
def tLits (K : PySem.W.Frag) (ds : List PyData) : TA := fun σ H Q => ∀ vs H', Ex H H' → DpAll K H' vs ds → Q vs H'
section
variable {X : Cx} {e : Expr} {es : List Expr} {d : PyData} {ds : List PyData} {pos : Pos}
theorem pl_int {i : Int} {j : Nat} : PE X (.Constant (.int i) j pos) (tLit X.K (.int i)) := pe_weak pe_int fun σ H Q q => q _ H (Evl.Ex.refl H) (.int i)
theorem pl_bl {b : Bool} {j : Nat} : PE X (.Constant (.bool b) j pos) (tLit X.K (.bool b)) := pe_weak pe_bl fun σ H Q q => q _ H (Evl.Ex.refl H) (.bl b)
theorem pl_non {j : Nat} : PE X (.Constant .none j pos) (tLit X.K .none) := pe_weak pe_non fun σ H Q q => q _ H (Evl.Ex.refl H) .non
theorem pl_str {x : Str} {j : Nat} : PE X (.Constant (.str x) j pos) (tLit X.K (.str x)) := pe_weak pe_str fun σ H Q q => q _ H (Evl.Ex.refl H) (.str x)
theorem pl_neg {i : Int} {j : Nat} {p2 : Pos} : PE X (.UnaryOp .USub (.Constant (.int i) j p2) pos) (tLit X.K (.int (-i))) := pe_weak (pe_un un_neg pe_int) fun σ H Q q => ⟨_, rfl, q _ H (Evl.Ex.refl H) (.int _)⟩
theorem pl_nil : PA X [] (tLits X.K []) := ⟨fun pos pins s σ H Q I q => pa_nil.run pos pins s σ H Q I (q [] H (Evl.Ex.refl H) .nil)⟩
theorem pl_cons (he : PE X e (tLit X.K d)) (hr : PA X es (tLits X.K ds)) (hn : starEach (e :: es) X.env = (false, eval e X.env) :: starEach es X.env := by rfl) : PA X (e :: es) (tLits X.K (d :: ds)) :=
  ⟨fun pos pins s σ H Q I q => (pa_cons he hr hn).run pos pins s σ H Q I fun v H1 e1 d1 => fun vs H2 e2 d2 => q (v :: vs) H2 (e1.trans e2) (.cons (dpEx e2 d1) d2)⟩
theorem pl_lst (h : PA X es (tLits X.K ds)) (hz : ds.length ≤ 1000) : PE X (.List es pos) (tLit X.K (.list ds)) := pe_weak (pe_lstG h) fun σ H Q q => fun vs H1 e1 d1 => ⟨by
  rw [dpAll_len d1]
  exact Nat.le_trans hz (by decide), fun p H2 n2 e2 h2 => q _ H2 (e1.trans e2) (.lst (sqI h2) (dpAllEx e2 d1))⟩
theorem pl_tup {x1 : Nat} (h : PA X es (tLits X.K ds)) (hz : ds.length ≤ 1000) : PE X (.Tuple es x1 pos) (tLit X.K (.tuple ds)) := pe_weak (pe_tupG h) fun σ H Q q => fun vs H1 e1 d1 => ⟨by
  rw [dpAll_len d1]
  exact Nat.le_trans hz (by decide), fun p H2 n2 e2 h2 => q _ H2 (e1.trans e2) (.tup (sqT h2) (dpAllEx e2 d1))⟩
end
end My
set_option Elab.async false
set_option linter.all false
set_option maxRecDepth 100000
set_option maxHeartbeats 4000000
/-! Dicts whose keys are tuples of any depth (ints, texts, bools, None, tuples of these). -/
namespace My
open PySem PySem.Spec PyProof.Rows L2
/-! ### keys -/
mutual
/-- the thing x is the key k -/
inductive NIs (β : Bool) (K : PySem.W.Frag) (H : Hp) : NestedKey → V → Prop
  | none : NIs β K H .none .non
  | num (i : Int) : NIs β K H (.num i) (.int i)
  | bl (hb : β = true) (b : Bool) : NIs β K H (.num (if b = true then 1 else 0)) (.bl b)
  | text (x : Str) : NIs β K H (.text x) (.str x)
  | tup {a : Addr} {xs : List V} {ks : List NestedKey} : SqT K H a xs → NAll β K H ks xs → NIs β K H (.tup ks) (.ref a)
inductive NAll (β : Bool) (K : PySem.W.Frag) (H : Hp) : List NestedKey → List V → Prop
  | nil : NAll β K H [] []
  | cons {k : NestedKey} {v : V} {ks : List NestedKey} {vs : List V} : NIs β K H k v → NAll β K H ks vs → NAll β K H (k :: ks) (v :: vs)
end
variable {β : Bool}
/-- at j stands no tuple -/
def NTup (H : Hp) (j : Addr) : Prop := ∀ o, H j = some o → (∀ xs, o ≠ .tup xs) ∧ ∀ ob u, o ≠ .frz ob u
theorem NTup.lst {H : Hp} {j : Addr} {xs : List V} (h : H j = some (.lst xs)) : NTup H j := fun o e => by
  rw [h] at e
  cases e
  exact ⟨(fun _ z => nomatch z), (fun _ _ z => nomatch z)⟩
theorem sqT_keep {K : PySem.W.Frag} {H H' : Hp} {j a : Addr} {xs : List V} (e : Exj j H H') (n : NTup H j) : SqT K H a xs → SqT K H' a xs
  | .inl (.inl h) => .inl (.inl (e a _ (fun z => (n _ (z ▸ h)).1 _ rfl) h))
  | .inl (.inr ⟨o, h⟩) => .inl (.inr ⟨o, e a _ (fun z => (n _ (z ▸ h)).2 _ _ rfl) h⟩)
  | .inr h => .inr h
mutual
theorem NIs.map {K : PySem.W.Frag} {H H' : Hp} (e : ∀ a xs, SqT K H a xs → SqT K H' a xs) : ∀ (k : NestedKey) (v : V), NIs β K H k v → NIs β K H' k v
  | .none, _, h => by
    cases h
    exact .none
  | .num _, _, h => by
    cases h with
    | num => exact .num _
    | bl hb b => exact .bl hb b
  | .text _, _, h => by
    cases h
    exact .text _
  | .tup ks, _, h => by
    cases h with
    | tup h1 h2 => exact .tup (e _ _ h1) (NAll.map e ks _ h2)
theorem NAll.map {K : PySem.W.Frag} {H H' : Hp} (e : ∀ a xs, SqT K H a xs → SqT K H' a xs) : ∀ (ks : List NestedKey) (vs : List V), NAll β K H ks vs → NAll β K H' ks vs
  | [], _, h => by
    cases h
    exact .nil
  | k :: ks, _, h => by
    cases h with
    | cons h1 h2 => exact .cons (NIs.map e k _ h1) (NAll.map e ks _ h2)
end
theorem NIs.keep {K : PySem.W.Frag} {H H' : Hp} {j : Addr} {k : NestedKey} {v : V} (e : Exj j H H') (n : NTup H j) (h : NIs β K H k v) : NIs β K H' k v := NIs.map (fun _ _ => sqT_keep e n) k v h
theorem sqT_exN {K : PySem.W.Frag} {H H' : Hp} {a : Addr} {xs : List V} (e : Ex H H') : SqT K H a xs → SqT K H' a xs
  | .inl (.inl h) => .inl (.inl (e _ _ h))
  | .inl (.inr ⟨o, h⟩) => .inl (.inr ⟨o, e _ _ h⟩)
  | .inr h => .inr h
theorem NIs.ex {K : PySem.W.Frag} {H H' : Hp} {k : NestedKey} {v : V} (e : Ex H H') (h : NIs β K H k v) : NIs β K H' k v := NIs.map (fun _ _ => sqT_exN e) k v h
theorem NAll.ex {K : PySem.W.Frag} {H H' : Hp} {k : List NestedKey} {v : List V} (e : Ex H H') (h : NAll β K H k v) : NAll β K H' k v := NAll.map (fun _ _ => sqT_exN e) k v h
mutual
theorem NIs.up {K : PySem.W.Frag} {H : Hp} : ∀ (k : NestedKey) (v : V), NIs β K H k v → NIs true K H k v
  | .none, _, h => by
    cases h
    exact .none
  | .num _, _, h => by
    cases h with
    | num => exact .num _
    | bl hb b => exact .bl rfl b
  | .text _, _, h => by
    cases h
    exact .text _
  | .tup ks, _, h => by
    cases h with
    | tup h1 h2 => exact .tup h1 (NAll.up ks _ h2)
theorem NAll.up {K : PySem.W.Frag} {H : Hp} : ∀ (ks : List NestedKey) (vs : List V), NAll β K H ks vs → NAll true K H ks vs
  | [], _, h => by
    cases h
    exact .nil
  | k :: ks, _, h => by
    cases h with
    | cons h1 h2 => exact .cons (NIs.up k _ h1) (NAll.up ks _ h2)
end
/-- without bools the things are told by the keys -/
theorem NAll.ints_eq {K : PySem.W.Frag} {H : Hp} : ∀ (ns : List Int) (vs : List V), NAll false K H (ns.map NestedKey.num) vs → vs = ns.map V.int
  | [], _, h => by
    cases h
    rfl
  | n :: ns, _, h => by
    cases h with
    | cons h1 h2 =>
      cases h1 with
      | num => rw [NAll.ints_eq ns _ h2]; rfl
      | bl hb b => exact Bool.noConfusion hb
theorem NAll.ints {K : PySem.W.Frag} {H : Hp} : ∀ ns : List Int, NAll β K H (ns.map NestedKey.num) (ns.map V.int)
  | [] => .nil
  | n :: ns => .cons (.num n) (NAll.ints ns)
theorem NAll.bools {K : PySem.W.Frag} {H : Hp} : ∀ bs : List Bool, NAll true K H (bs.map fun b => NestedKey.num (if b = true then 1 else 0)) (bs.map V.bl)
  | [] => .nil
  | b :: bs => .cons (.bl rfl b) (NAll.bools bs)
section
variable {X : Cx} {pins : List (Addr × Obj)} {σ : L2.St} {H : Hp} {s : Shared}
mutual
theorem nis_is (I : Inv X pins σ H s) : ∀ (k : NestedKey) (x : V) (u : Value), NIs β X.K H k x → RelV x u → NestedIs s.heap k u
  | .none, _, u, h, r => by
    cases h
    cases (show u = Value.none from r)
    exact .none
  | .num _, _, u, h, r => by
    cases h with
    | num =>
      obtain ⟨t, e⟩ := (show ∃ t, u = Value.int _ t from r)
      subst e
      exact .int _ t
    | bl hb b =>
      cases (show u = Value.bool b from r)
      exact .bool rfl
  | .text x, _, u, h, r => by
    cases h
    obtain ⟨t, e⟩ := (show ∃ t, u = Value.str x t from r)
    subst e
    exact .text x t
  | .tup ks, _, u, h, r => by
    cases h with
    | @tup a xs _ h1 h2 =>
      cases (show u = Value.ref a from r)
      obtain ⟨its, rv, ⟨o, e1, e2, n, e3⟩, _⟩ := I.tuple h1
      exact .tup e1 e2 e3 (nall_is I ks xs its h2 rv)
theorem nall_is (I : Inv X pins σ H s) : ∀ (ks : List NestedKey) (xs : List V) (us : List Value), NAll β X.K H ks xs → Vals xs us → NestedAll s.heap ks us
  | [], _, us, h, r => by
    cases h
    cases r
    exact .nil
  | k :: ks, _, us, h, r => by
    cases h with
    | @cons _ v _ vs h1 h2 =>
      cases r with
      | @cons _ u _ us r1 r2 => exact .cons (nis_is I k v u h1 r1) (nall_is I ks vs us h2 r2)
end
end
/-! ### dicts -/
def entN (w : World) (x : NestedKey × Addr × Value) : DictEntry := ⟨x.1.hash w, .ref x.2.1, x.2.2⟩
/-- the object at a is a dict of the entries xs -/
def DNO (w : World) (a : Addr) (xs : List (NestedKey × Addr × Value)) : HO := .ext fun h => ∃ o es ep, h.get? a = some o ∧ o.ExactDict ∧ o.data = .dict es ep ∧ es.toList = xs.map (entN w)
abbrev KN (β : Bool) (K : PySem.W.Frag) (H : Hp) : List (NestedKey × V) → List (NestedKey × Addr × Value) → Prop := Paired fun p q => p.1 = q.1 ∧ (NIs β K H p.1 (.ref q.2.1) ∧ p.1.depth ≤ 8) ∧ RelV p.2 q.2.2
/-- at a stands a dict of these keys and values -/
def IsDN (β : Bool) (K : PySem.W.Frag) (w : World) (H : Hp) (a : Addr) (kvs : List (NestedKey × V)) : Prop := ∃ xs, H a = some (DNO w a xs) ∧ KN β K H kvs xs ∧ kvs.length ≤ sizeLine ∧ (a == sysModules) = false ∧ (xs.map (·.1)).Nodup
/-- .. it may be locked: to be read -/
def RdDN (β : Bool) (K : PySem.W.Frag) (w : World) (H : Hp) (a : Addr) (kvs : List (NestedKey × V)) : Prop := ∃ xs, Rd H a (DNO w a xs) ∧ KN β K H kvs xs ∧ kvs.length ≤ sizeLine ∧ (a == sysModules) = false ∧ (xs.map (·.1)).Nodup
theorem KN.up {K : PySem.W.Frag} {H : Hp} {kvs : List (NestedKey × V)} {xs : List (NestedKey × Addr × Value)} (r : KN β K H kvs xs) : KN true K H kvs xs := Paired.mapP r fun _ _ z => ⟨z.1, ⟨NIs.up _ _ z.2.1.1, z.2.1.2⟩, z.2.2⟩
theorem IsDN.rd {K : PySem.W.Frag} {w : World} {H : Hp} {a : Addr} {kvs : List (NestedKey × V)} : IsDN β K w H a kvs → RdDN true K w H a kvs
  | ⟨xs, h, r, h3⟩ => ⟨xs, .inl h, r.up, h3⟩
theorem IsDN.rdB {K : PySem.W.Frag} {w : World} {H : Hp} {a : Addr} {kvs : List (NestedKey × V)} : IsDN β K w H a kvs → RdDN β K w H a kvs
  | ⟨xs, h, r⟩ => ⟨xs, .inl h, r⟩
theorem RdDN.up {K : PySem.W.Frag} {w : World} {H : Hp} {a : Addr} {kvs : List (NestedKey × V)} : RdDN β K w H a kvs → RdDN true K w H a kvs
  | ⟨xs, h, r, h3⟩ => ⟨xs, h, r.up, h3⟩
theorem RdDN.ex {K : PySem.W.Frag} {w : World} {H H' : Hp} {a : Addr} {kvs : List (NestedKey × V)} (e : Ex H H') (h : RdDN β K w H a kvs) (k : ∀ ks xs, KN β K H ks xs → KN β K H' ks xs) : RdDN β K w H' a kvs := by
  obtain ⟨xs, h1, h2, h3⟩ := h
  refine ⟨xs, ?_, k _ _ h2, h3⟩
  rcases h1 with h1 | ⟨o, h1⟩
  · exact .inl (e _ _ h1)
  · exact .inr ⟨o, e _ _ h1⟩
theorem KN.val {K : PySem.W.Frag} {H : Hp} {kvs : List (NestedKey × V)} {xs : List (NestedKey × Addr × Value)} (r : KN β K H kvs xs) (k : NestedKey) : RelO (valV kvs k) ((atKey xs k).map (·.2)) := by
  induction r with
  | nil => exact True.intro
  | @cons p q ps qs h t ih =>
    obtain ⟨h1, _, h2⟩ := h
    by_cases e : p.1 = k
    · have e' : q.1 = k := h1.symm.trans e
      have b : atKey (q :: qs) k = some q.2 := by simp [atKey, List.find?_cons, e']
      rw [valV_pos e, b]
      exact h2
    · have e' : ¬ q.1 = k := fun z => e (h1.trans z)
      have b : atKey (q :: qs) k = atKey qs k := by simp [atKey, List.find?_cons, e']
      rw [valV_neg e, b]
      exact ih
theorem KN.repl {K : PySem.W.Frag} {H : Hp} {kvs : List (NestedKey × V)} {xs : List (NestedKey × Addr × Value)} (r : KN β K H kvs xs) (k : NestedKey) {y : V} {u : Value} (ry : RelV y u) : KN β K H (kvs.map fun kv => if kv.1 = k then (kv.1, y) else kv) (xs.map (putAt k u)) := by
  induction r with
  | nil => exact .nil
  | @cons p q ps qs h t ih =>
    rw [List.map_cons, List.map_cons]
    refine .cons ?_ ih
    obtain ⟨h1, h2, h3⟩ := h
    unfold putAt
    by_cases e : p.1 = k
    · rw [if_pos e, if_pos (h1.symm.trans e)]
      exact ⟨h1, h2, ry⟩
    · rw [if_neg e, if_neg (fun z => e (h1.trans z))]
      exact ⟨h1, h2, h3⟩
theorem KN.put {K : PySem.W.Frag} {H : Hp} {kvs : List (NestedKey × V)} {xs : List (NestedKey × Addr × Value)} (r : KN β K H kvs xs) (k : NestedKey) {b : Addr} {y : V} {u : Value} (hb : NIs β K H k (.ref b) ∧ k.depth ≤ 8) (ry : RelV y u) : KN β K H (putK kvs k y) (storedH xs k b u) := by
  have e : (kvs.any fun kv => decide (kv.1 = k)) = (atKey xs k).isSome := by
    rw [valV_any, (r.val k).isSome_eq, Option.isSome_map]
  unfold putK storedH
  rw [e]
  by_cases q : (atKey xs k).isSome = true
  · rw [if_pos q, if_pos q]
    exact r.repl k ry
  · rw [if_neg q, if_neg q]
    exact Paired.snoc r ⟨rfl, hb, ry⟩
theorem KN.map {K : PySem.W.Frag} {H H' : Hp} {kvs : List (NestedKey × V)} {xs : List (NestedKey × Addr × Value)} (e : ∀ a ys, SqT K H a ys → SqT K H' a ys) (r : KN β K H kvs xs) : KN β K H' kvs xs :=
  Paired.mapP r fun _ _ z => ⟨z.1, ⟨NIs.map e _ _ z.2.1.1, z.2.1.2⟩, z.2.2⟩
theorem KN.keys {K : PySem.W.Frag} {H : Hp} {kvs : List (NestedKey × V)} {xs : List (NestedKey × Addr × Value)} (r : KN β K H kvs xs) : kvs.map (·.1) = xs.map (·.1) := by
  induction r with
  | nil => rfl
  | cons h t ih => rw [List.map_cons, List.map_cons, ih, h.1]
theorem IsDN.keep {K : PySem.W.Frag} {w : World} {H H' : Hp} {a j : Addr} {kvs : List (NestedKey × V)} (e : Exj j H H') (n : NTup H j) (ha : a ≠ j) : IsDN β K w H a kvs → IsDN β K w H' a kvs
  | ⟨xs, h1, h2, h3⟩ => ⟨xs, e _ _ ha h1, h2.map fun _ _ => sqT_keep e n, h3⟩
theorem IsDN.ex {K : PySem.W.Frag} {w : World} {H H' : Hp} {a : Addr} {kvs : List (NestedKey × V)} (e : Ex H H') : IsDN β K w H a kvs → IsDN β K w H' a kvs
  | ⟨xs, h1, h2, h3⟩ => ⟨xs, e _ _ h1, h2.map fun _ _ => sqT_exN e, h3⟩
theorem IsDN.ntup {K : PySem.W.Frag} {w : World} {H : Hp} {a : Addr} {kvs : List (NestedKey × V)} : IsDN β K w H a kvs → NTup H a
  | ⟨xs, h1, _⟩ => fun o e => by
    rw [h1] at e
    cases e
    exact ⟨(fun _ z => nomatch z), (fun _ _ z => nomatch z)⟩
theorem IsDN.there {K : PySem.W.Frag} {w : World} {H : Hp} {a : Addr} {kvs : List (NestedKey × V)} : IsDN β K w H a kvs → ∃ o, H a = some o
  | ⟨_, h, _⟩ => ⟨_, h⟩
theorem IsDN.ne_lst {K : PySem.W.Frag} {w : World} {H : Hp} {a l : Addr} {kvs : List (NestedKey × V)} {xs : List V} (d : IsDN β K w H a kvs) (h : H l = some (.lst xs)) : l ≠ a := fun z => by
  obtain ⟨ys, e, _⟩ := d
  rw [← z, h] at e
  cases e
theorem IsDN.ne_tup {K : PySem.W.Frag} {w : World} {H : Hp} {a l : Addr} {kvs : List (NestedKey × V)} {xs : List V} (d : IsDN β K w H a kvs) (h : H l = some (.tup xs)) : l ≠ a := fun z => by
  obtain ⟨ys, e, _⟩ := d
  rw [← z, h] at e
  cases e
theorem IsDN.nodup {K : PySem.W.Frag} {w : World} {H : Hp} {a : Addr} {kvs : List (NestedKey × V)} : IsDN β K w H a kvs → (kvs.map (·.1)).Nodup
  | ⟨_, _, r, _, _, n⟩ => by
    rw [KN.keys r]
    exact n
section
variable {X : Cx} {pins : List (Addr × Obj)} {σ : L2.St} {H : Hp} {s : Shared} {a b : Addr} {kvs : List (NestedKey × V)} {k : NestedKey} {v : V} {r : Value} {A : Around} {E : Value → Shared → Prop}
theorem dn_at (I : Inv X pins σ H s) (d : RdDN β X.K X.w H a kvs) : kvs.length ≤ sizeLine ∧ (a == sysModules) = false ∧ ∃ xs, Rd H a (DNO X.w a xs) ∧ KN β X.K H kvs xs ∧ s.heap.DictOfH (nestedKind X.prog X.w) a xs := by
  obtain ⟨xs, h1, h2, h3, h4, h5⟩ := d
  obtain ⟨⟨o, es, ep, e1, e2, e3, e4⟩, _⟩ := (show ObjOk X.prog X.w H s.heap a (DNO X.w a xs) from h1.ok I.hok)
  refine ⟨h3, h4, xs, h1, h2, o, es, ep, e1, e2, e3, e4, fun x hx => ?_, h5⟩
  have all : ∀ {l : List (NestedKey × V)} {m : List (NestedKey × Addr × Value)}, KN β X.K H l m → ∀ x ∈ m, (nestedKind X.prog X.w).is s.heap x.1 x.2.1 := by
    intro l m q
    induction q with
    | nil => intro x hx; exact nomatch hx
    | @cons p q ps qs hq t ih =>
      intro x hx
      rcases List.mem_cons.mp hx with e | hx
      · subst e
        refine ⟨nis_is I _ (.ref x.2.1) _ (by rw [← hq.1]; exact hq.2.1.1) rfl, ?_⟩
        rw [← hq.1]
        exact hq.2.1.2
      · exact ih x hx
  exact all h2 x hx
theorem dn_key (I : Inv X pins σ H s) (h : NIs β X.K H k (.ref b)) (hd : k.depth ≤ 8) : (nestedKind X.prog X.w).is s.heap k b := ⟨nis_is I _ (.ref b) _ h rfl, hd⟩
theorem dn_obj {P : Program} {w : World} {H : Hp} {h : Heap} {xs : List (NestedKey × Addr × Value)} (d : h.DictOfH (nestedKind P w) a xs) : ObjOk P w H h a (DNO w a xs) := by
  obtain ⟨o, es, ep, e1, e2, e3, e4, _⟩ := d
  refine ⟨⟨o, es, ep, e1, e2, e3, e4⟩, ⟨o, e1⟩, ?_⟩
  rintro h1 h2 ⟨o, es, ep, e1, e2, e3, e4⟩ st
  exact ⟨o, es, ep, st _ e1, e2, e3, e4⟩
/-- d[k], there -/
theorem n_getItem {Q : Value → Shared → Prop} (hu : A.units + 9 < cLine) (I : Inv X pins σ H s) (d : RdDN β X.K X.w H a kvs) (hk : NIs β X.K H k (.ref b)) (hd : k.depth ≤ 8) (l : valV kvs k = some v) (h : ∀ w' s', Inv X pins σ H s' → RelV v w' → Q w' s') :
    wpAny (model X.prog X.w) A (getItem (.ref a) (.ref b)) Q E s := by
  obtain ⟨z, hs, xs, _, rel, dd⟩ := dn_at I d
  obtain ⟨w', hw, rw'⟩ := RelO.some_of (v := v) (o := (atKey xs k).map (·.2)) (by rw [← l]; exact rel.val k)
  obtain ⟨p, hp, hp2⟩ := Option.map_eq_some_iff.mp hw
  refine wpAny_getItem_heap (show A.in1.units + 8 < cLine by show A.units + 1 + 8 < cLine; omega) (dn_key I hk hd) dd hp ?_
  rw [hp2]
  exact h w' _ (I.tok _) rw'
theorem n_in {Q : Value → Shared → Prop} (hu : A.units + 9 < cLine) (I : Inv X pins σ H s) (d : RdDN β X.K X.w H a kvs) (hk : NIs β X.K H k (.ref b)) (hd : k.depth ≤ 8) (h : ∀ s', Inv X pins σ H s' → Q (.bool (valV kvs k).isSome) s') :
    wpAny (model X.prog X.w) A (compareOp .In (.ref b) (.ref a)) Q E s := by
  obtain ⟨z, hs, xs, _, rel, dd⟩ := dn_at I d
  refine wpAny_in_heap (show A.in1.units + 8 < cLine by show A.units + 1 + 8 < cLine; omega) (dn_key I hk hd) hs dd ?_
  have q := (rel.val k).isSome_eq
  rw [Option.isSome_map] at q
  rw [← q]
  exact h _ (I.tok _)
theorem n_notIn {Q : Value → Shared → Prop} (hu : A.units + 9 < cLine) (I : Inv X pins σ H s) (d : RdDN β X.K X.w H a kvs) (hk : NIs β X.K H k (.ref b)) (hd : k.depth ≤ 8) (h : ∀ s', Inv X pins σ H s' → Q (.bool (!(valV kvs k).isSome)) s') :
    wpAny (model X.prog X.w) A (compareOp .NotIn (.ref b) (.ref a)) Q E s := by
  obtain ⟨z, hs, xs, _, rel, dd⟩ := dn_at I d
  refine wpAny_notIn_heap (show A.in1.units + 8 < cLine by show A.units + 1 + 8 < cLine; omega) (dn_key I hk hd) hs dd ?_
  have q := (rel.val k).isSome_eq
  rw [Option.isSome_map] at q
  rw [← q]
  exact h _ (I.tok _)
/-- d.get(k, x) -/
theorem n_getOr {x : V} {u : Value} {Q : Value → Shared → Prop} (hu : A.units + 9 < cLine) (I : Inv X pins σ H s) (d : RdDN β X.K X.w H a kvs) (hk : NIs β X.K H k (.ref b)) (hd : k.depth ≤ 8) (rx : RelV x u) (h : ∀ w' s', Inv X pins σ H s' → RelV ((valV kvs k).getD x) w' → Q w' s') :
    wpAny (model X.prog X.w) A (call (.builtin "dict.get") [.ref a, .ref b, u]) Q E s := by
  obtain ⟨z, hs, xs, _, rel, dd⟩ := dn_at I d
  have e : valueAt (pairsH xs) k = (atKey xs k).map (·.2) := valueAt_pairsH xs k
  refine getOr_keyed (kvs := pairsH xs) (show A.in1.units + 8 < cLine by show A.units + 1 + 8 < cLine; omega) (dn_key I hk hd) hs ⟨xs, dd, rfl⟩ ?_
  rw [e]
  exact h _ _ (I.tok _) ((rel.val k).getD rx)
/-- d[k] = v -/
theorem n_setItem {Q : Unit → Shared → Prop} (hu : A.units + 9 < cLine) (I : Inv X pins σ H s) (d : IsDN β X.K X.w H a kvs) (hk : NIs β X.K H k (.ref b)) (hd : k.depth ≤ 8) (rv : RelV v r) (hl : kvs.length < sizeLine)
    (h : ∀ H' s', Inv X pins σ H' s' → Exj a H H' → IsDN β X.K X.w H' a (putK kvs k v) → Q () s') : wpAny (model X.prog X.w) A (setItem (.ref a) (.ref b) r) Q E s := by
  obtain ⟨z, hs, xs, rea, rel, dd⟩ := dn_at I d.rdB
  have ea : Mut (H a) := by
    obtain ⟨_, e, _⟩ := d
    rw [e]
    exact True.intro
  have hz : xs.length ≤ sizeLine := by rw [← Paired.length rel]; exact z
  have hl' : (putK kvs k v).length ≤ sizeLine := by have := length_putK kvs k v; omega
  refine wpAny_setItem_heap (hsz := hz) (show A.in1.units + 8 < cLine by show A.units + 1 + 8 < cLine; omega) (dn_key I hk hd) dd fun h' dd' hs' => ?_
  have hq : ∃ q, h'.get? a = some q := let ⟨q, _, _, hq, _⟩ := dd'; ⟨q, hq⟩
  have ex : Exj a H (L2.upd H a (DNO X.w a (storedH xs k b r))) := (Exj.refl _ _).upd
  have nt := d.ntup
  refine h _ _ (d_write I ea hs' hq (dn_obj dd')) ex ⟨_, upd_same, (rel.put k ⟨hk, hd⟩ rv).map fun _ _ => sqT_keep ex nt, hl', hs, ?_⟩
  obtain ⟨_, _, _, _, _, _, _, _, n⟩ := dd'
  exact n
end
/-! ### readings and rules -/
def tNGet (K : PySem.W.Frag) (w : World) (td ty : TE) : TE := fun σ H Q => td σ H fun x H1 => ty σ H1 fun y H2 => ∃ a b kvs k v, x = .ref a ∧ y = .ref b ∧ RdDN true K w H2 a kvs ∧ NIs true K H2 k (.ref b) ∧ k.depth ≤ 8 ∧ valV kvs k = some v ∧ Q v H2
def tNIn (K : PySem.W.Frag) (w : World) (ty td : TE) : TE := fun σ H Q => ty σ H fun y H1 => td σ H1 fun x H2 => ∃ a b kvs k, x = .ref a ∧ y = .ref b ∧ RdDN true K w H2 a kvs ∧ NIs true K H2 k (.ref b) ∧ k.depth ≤ 8 ∧ Q (.bl (valV kvs k).isSome) H2
def tNNotIn (K : PySem.W.Frag) (w : World) (ty td : TE) : TE := fun σ H Q => ty σ H fun y H1 => td σ H1 fun x H2 => ∃ a b kvs k, x = .ref a ∧ y = .ref b ∧ RdDN true K w H2 a kvs ∧ NIs true K H2 k (.ref b) ∧ k.depth ≤ 8 ∧ Q (.bl (!(valV kvs k).isSome)) H2
def sNPut (K : PySem.W.Frag) (w : World) (td ty tv : TE) : TS := fun D σ H => tv σ H fun v H1 => td σ H1 fun x H2 => ty σ H2 fun y H3 => ∃ a b kvs k β, x = .ref a ∧ y = .ref b ∧ IsDN β K w H3 a kvs ∧ NIs β K H3 k (.ref b) ∧ k.depth ≤ 8 ∧ kvs.length < sizeLine ∧
  ∀ H4, Exj a H3 H4 → IsDN β K w H4 a (putK kvs k v) → D.nx σ H4
def tNNew (K : PySem.W.Frag) (w : World) : TE := fun _ H Q => ∀ p H', H p = none → Ex H H' → (∀ β, IsDN β K w H' p []) → Q (.ref p) H'
section
variable {X : Cx} {o i e value : Expr} {pos pos' tpos : Pos} {td ty tv : TE}
theorem RdDN.typeIs {pins : List (Addr × Obj)} {σ : L2.St} {H : Hp} {s : Shared} {a : Addr} {kvs : List (NestedKey × V)} (I : Inv X pins σ H s) (d : RdDN β X.K X.w H a kvs) : s.TypeIs (.ref a) "dict" := by
  obtain ⟨_, _, xs, _, _, dd⟩ := dn_at I d
  exact dd.typeIs
theorem pe_nget (hu : X.A.units + 64 < cLine) (ho : PE X o td) (hi : PE X i ty) (hs : NoSl i) : PE X (.Subscript o i pos) (tNGet X.K X.w td ty) := by
  refine ⟨fun pins s σ H Q I h => ?_⟩
  refine subD_of PySem.F.slot_dict_getitem.lookup hs (thn (ho.run pins s σ H _ I h) fun u s1 ⟨x, H1, I1, rx, q1⟩ => thn (hi.run pins s1 σ H1 _ I1 q1) fun iv s2 ⟨y, H2, I2, ry, a, b, kvs, k, v, ex, ey, d, hk, hd, l, q2⟩ => ?_)
  subst ex ey
  obtain rfl : u = Value.ref a := rx
  obtain rfl : iv = Value.ref b := ry
  exact ⟨d.typeIs I2, n_getItem (by omega) I2 d hk hd l fun w' s3 I3 rw' => ⟨v, H2, I3, rw', q2⟩⟩
theorem pc_nin (hu : X.A.units + 64 < cLine) (hi : PE X i ty) (ho : PE X o td) : PC X .In i o (tNIn X.K X.w ty td) := by
  refine ⟨fun pins s σ H Q I h => ?_⟩
  refine thn (hi.run pins s σ H _ I h) fun iv s1 ⟨y, H1, I1, ry, q1⟩ => thn (ho.run pins s1 σ H1 _ I1 q1) fun u s2 ⟨x, H2, I2, rx, a, b, kvs, k, ex, ey, d, hk, hd, q2⟩ => ?_
  subst ex ey
  obtain rfl : u = Value.ref a := rx
  obtain rfl : iv = Value.ref b := ry
  exact n_in (by omega) I2 d hk hd fun s3 I3 => ⟨.bl _, H2, I3, rfl, q2⟩
theorem pc_nnotin (hu : X.A.units + 64 < cLine) (hi : PE X i ty) (ho : PE X o td) : PC X .NotIn i o (tNNotIn X.K X.w ty td) := by
  refine ⟨fun pins s σ H Q I h => ?_⟩
  refine thn (hi.run pins s σ H _ I h) fun iv s1 ⟨y, H1, I1, ry, q1⟩ => thn (ho.run pins s1 σ H1 _ I1 q1) fun u s2 ⟨x, H2, I2, rx, a, b, kvs, k, ex, ey, d, hk, hd, q2⟩ => ?_
  subst ex ey
  obtain rfl : u = Value.ref a := rx
  obtain rfl : iv = Value.ref b := ry
  exact n_notIn (by omega) I2 d hk hd fun s3 I3 => ⟨.bl _, H2, I3, rfl, q2⟩
theorem ps_nput (hu : X.A.units + 64 < cLine) (ho : PE X o td) (hi : PE X i ty) (hv : PE X value tv) (hs : swapsWith value (some (.Subscript o i pos')) pos.line X.env = pure false) :
    PS X (.Assign [.Subscript o i pos'] value pos) (sNPut X.K X.w td ty tv) := by
  refine ⟨fun pins s σ H D I h => ?_⟩
  refine wpAny_Assign_Subscript (thn (hv.run pins s σ H _ I h) fun r s1 ⟨v, H1, I1, rv, q1⟩ => thn (ho.run pins s1 σ H1 _ I1 q1) fun u s2 ⟨x, H2, I2, rx, q2⟩ => thn (hi.run pins s2 σ H2 _ I2 q2) fun iv s3 ⟨y, H3, I3, ry, a, b, kvs, k, β, ex, ey, d, hk, hd, hl, q3⟩ => ?_) hs
  subst ex ey
  obtain rfl : u = Value.ref a := rx
  obtain rfl : iv = Value.ref b := ry
  exact n_setItem (by omega) I3 d hk hd rv hl fun H4 s4 I4 e4 d4 => ⟨σ, H4, I4, q3 H4 e4 d4⟩
theorem pe_nnew : PE X (.Dict [] [] pos) (tNNew X.K X.w) := by
  refine ⟨fun pins s σ H Q I h => ?_⟩
  have hp := I.hok.fresh (Nat.le_refl s.heap.objs.size)
  have hb : ((s.heap.objs.size : Addr) == sysModules) = false := beq_eq_false_iff_ne.mpr (Ne.symm (Nat.ne_of_lt I.big))
  have dd : (s.heap.push { cls := .type "dict", data := .dict #[] }).DictOfH (nestedKind X.prog X.w) s.heap.objs.size [] := Heap.DictOfH.new s.heap
  have I1 := I.laid (a := s.heap.objs.size) (o := DNO X.w s.heap.objs.size []) (t' := s.toks) (fun _ _ q => Heap.get?_push_of_some _ q) (Nat.le_refl _) (dn_obj dd)
  exact wpAny_Dict_empty ⟨.ref s.heap.objs.size, _, I1, rfl, h _ _ hp (Evl.Ex.new hp) fun β => ⟨[], upd_same, .nil, Nat.zero_le _, hb, List.nodup_nil⟩⟩
def tNGet2 (K : PySem.W.Frag) (w : World) (td ty tx : TE) : TE := fun σ H Q => td σ H fun x H1 => ∃ a, x = .ref a ∧ (∃ kvs, RdDN true K w H1 a kvs) ∧ ty σ H1 fun y H2 => tx σ H2 fun z H3 => ∃ kvs k b, y = .ref b ∧ RdDN true K w H3 a kvs ∧ NIs true K H3 k (.ref b) ∧ k.depth ≤ 8 ∧ Q ((valV kvs k).getD z) H3
/-- d.get(k, x) -/
theorem pe_nget2 {f : Expr} {tx : TE} {apos cpos : Pos} (hu : X.A.units + 64 < cLine) (ho : PE X o td) (he : PE X e ty) (hf : PE X f tx) (m : M2 X o "get" apos e f cpos) : PE X (.Call (.Attribute o "get" apos) [e, f] [] cpos) (tNGet2 X.K X.w td ty tx) := by
  refine ⟨fun pins s σ H Q I h => ?_⟩
  refine wpAny_Call_method m.base m.few m.line PySem.F.plainAttrs_dict PySem.F.slot_dict_get PySem.F.type_dict_get (thn (ho.run pins s σ H _ I h) fun u s1 ⟨x, H1, I1, rx, a, ex, ⟨kvs0, d0⟩, q1⟩ => ?_)
  subst ex
  obtain rfl : u = Value.ref a := rx
  refine ⟨d0.typeIs I1, fun b q => ?_, ?_⟩
  · cases q
    obtain ⟨_, _, _, _, _, ob, _, _, h1, h2, _⟩ := dn_at I1 d0
    exact ⟨ob, h1, h2.2.1⟩
  rw [m.trees]
  refine Calls.callWith_builtin rfl (Calls.evalArgs_plain (Calls.spliced_cons (thn (he.run pins s1 σ H1 _ I1 q1) fun iv s2 ⟨y, H2, I2, ry, q2⟩ =>
    Calls.spliced_cons (thn (hf.run pins s2 σ H2 _ I2 q2) fun fv s3 ⟨z, H3, I3, rz, q3⟩ => Calls.spliced_nil ?_))))
  obtain ⟨kvs, k, b, ey, d, hk, hd, q3⟩ := q3
  subst ey
  obtain rfl : iv = Value.ref b := ry
  exact n_getOr (by omega) I3 d hk hd rz fun w' s4 I4 rw' => ⟨_, H3, I4, rw', q3⟩
def rLenN (K : PySem.W.Frag) (w : World) : List V → Hp → VK → Prop := fun xs H Q => ∃ (p : Addr) (kvs : List (NestedKey × V)), xs = [.ref p] ∧ RdDN true K w H p kvs ∧ Q (.int ((kvs.length : Nat) : Int)) H
theorem call_lenN : CallR X (.builtin "len") (rLenN X.K X.w) := by
  intro pins s σ H xs us Q I r h
  obtain ⟨p, kvs, rfl, hp, q⟩ := h
  obtain ⟨u, rfl, rx⟩ := vals1 r
  obtain rfl : u = .ref p := rx
  obtain ⟨z, hd, ys, _, rel, dd⟩ := dn_at I hp
  have hl : kvs.length = ys.length := Paired.length rel
  refine call_len_dictH hd dd (by rw [← hl]; rw [sizeLine_eq] at z; omega) ?_
  rw [← hl]
  exact ⟨.int ((kvs.length : Nat) : Int), H, I.tok _, ⟨_, rfl⟩, q⟩
theorem dict_pairsN {prog : Program} {w : World} {A : Around} {E : Value → Shared → Prop} {s : Shared} {env : Env} {keys : List (Option Expr)} {values : List Expr} {pos : Pos} {pairs : List (Sem Value × Sem Value)} {Q : Value → Shared → Prop} (hu : (nestedKind prog w).room A)
    (hshape : (evalEachOpt keys env).zip ((evalEach values env).map fun v => do let x ← v; standAt pos; pure x) = pairs.map fun p => (some p.1, p.2)) (h0 : pairs ≠ []) (hlen : pairs.length ≤ 15)
    (h : wpAny (model prog w) A (evalPairs pairs) (fun vs s₁ => ∃ ps, CarriesH (nestedKind prog w) s₁.heap vs ps ∧ s₁.heap.DictOfH (nestedKind prog w) s.heap.objs.size [] ∧
      ∀ h' tk, h'.DictOfH (nestedKind prog w) s.heap.objs.size (storedAllH [] ps) → Heap.SameBut s.heap.objs.size s₁.heap h' → Q (.ref s.heap.objs.size) { s₁ with heap := h', toks := tk }) E
      { s with heap := s.heap.push { cls := .type "dict", data := .dict #[] } }) :
    wpAny (model prog w) A (eval (.Dict keys values pos) env) Q E s := by
  rw [arm_eval_Dict, hshape, dictDisplay_pairs pairs h0 (by omega)]
  exact wpAny_bind (wpAny_standAt (wpAny_bind (wpAny_subDictH (knd := nestedKind prog w) (Q := fun d s' => wpAny (model prog w) A (pure (Value.ref d)) Q E s') hu hlen
    (wpAny_mono h (fun vs s₁ h₁ => by obtain ⟨ps, hc, hm, hq⟩ := h₁; exact ⟨ps, hc, hm, fun h' tk a b => wpAny_pure (hq h' tk a b)⟩) fun _ _ e => e))))
/-- {k: v} -/
def tNDisp1 (K : PySem.W.Frag) (w : World) (tk tv : TE) : TE := fun σ H Q => ∀ p H1, H p = none → Ex H H1 → H1 p = some (DNO w p []) → tk σ H1 fun x H2 => tv σ H2 fun y H3 => H3 p = some (DNO w p []) ∧ ∃ k b β, x = .ref b ∧ NIs β K H3 k (.ref b) ∧ k.depth ≤ 8 ∧ ∀ H4, Exj p H3 H4 → IsDN β K w H4 p [(k, y)] → Q (.ref p) H4
theorem pe_ndisp1 {k v : Expr} {tk tv : TE} (hu : X.A.units + 64 < cLine) (hk : PE X k tk) (hv : PE X v tv) : PE X (.Dict [some k] [v] pos) (tNDisp1 X.K X.w tk tv) := by
  refine ⟨fun pins s σ H Q I q => ?_⟩
  have hn := I.hok.fresh (Nat.le_refl s.heap.objs.size)
  have hb : ((s.heap.objs.size : Addr) == sysModules) = false := beq_eq_false_iff_ne.mpr (Ne.symm (Nat.ne_of_lt I.big))
  have dd0 : (s.heap.push { cls := .type "dict", data := .dict #[] }).DictOfH (nestedKind X.prog X.w) s.heap.objs.size [] := Heap.DictOfH.new s.heap
  have I1 := I.laid (a := s.heap.objs.size) (o := DNO X.w s.heap.objs.size []) (t' := s.toks) (fun _ _ q => Heap.get?_push_of_some _ q) (Nat.le_refl _) (dn_obj dd0)
  refine dict_pairsN (pairs := pairTrees [some k] [v] X.env pos) (show X.A.units + 8 < cLine by omega) (zip_pairTrees [some k] [v] X.env pos rfl rfl) (fun z => nomatch z) (show 1 ≤ 15 by decide) ?_
  refine pairTrees_cons_walk (thn (hk.run pins _ σ _ _ I1 (q _ _ hn (Evl.Ex.new hn) upd_same)) fun u s1 ⟨x, H2, I2, rx, q1⟩ => thn (hv.run pins s1 σ H2 _ I2 q1) fun r s2 ⟨y, H3, I3, ry, e, kk, b, β, ex, hkk, hd, q2⟩ => ?_)
  subst ex
  obtain rfl : u = Value.ref b := rx
  refine pairTrees_nil_walk ?_
  have d0 : IsDN β X.K X.w H3 s.heap.objs.size [] := ⟨[], e, .nil, Nat.zero_le _, hb, List.nodup_nil⟩
  obtain ⟨_, _, xs, ea, rel, dd⟩ := dn_at I3 d0.rdB
  cases rel
  refine ⟨[(kk, b, r)], ⟨rfl, rfl, dn_key I3 hkk hd, trivial⟩, dd, fun h' tk dd' hs => ?_⟩
  have dd' : h'.DictOfH (nestedKind X.prog X.w) s.heap.objs.size [(kk, b, r)] := dd'
  have hq : ∃ q, h'.get? s.heap.objs.size = some q := let ⟨q, _, _, hq, _⟩ := dd'; ⟨q, hq⟩
  have exj : Exj s.heap.objs.size H3 (L2.upd H3 s.heap.objs.size (DNO X.w s.heap.objs.size [(kk, b, r)])) := (Exj.refl _ _).upd
  have I4 := d_write (t' := tk) I3 (by rw [e]; exact True.intro) hs hq (dn_obj dd')
  exact ⟨.ref s.heap.objs.size, _, I4, rfl, q2 _ exj ⟨_, upd_same, .cons ⟨rfl, ⟨NIs.keep exj d0.ntup hkk, hd⟩, ry⟩ .nil, by show 1 ≤ sizeLine; decide, hb, by simp⟩⟩
end
/-! ### walked by its keys -/
section
variable {P : Program} {w : World} {K : PySem.W.Frag} {tg : Expr} {X : Cx} {pins : List (Addr × Obj)} {σ : L2.St} {H : Hp} {s : Shared} {d : Addr} {o : Obj} {xs : List (NestedKey × Addr × Value)} {es : Array DictEntry} {ep : Nat}
theorem frzN (I : Inv X pins σ H s) (h : H d = some (.frz o (DNO X.w d xs))) : s.heap.get? d = some o ∧ o.ExactDict ∧ ∃ (es : Array DictEntry) (ep : Nat), o.data = .dict es ep ∧ es.size = xs.length ∧ ∀ (i : Nat) q, xs[i]? = some q → es[i]? = some (entN X.w q) := by
  obtain ⟨hd, ⟨o', es, ep, ho, hx, hdt, he⟩, _⟩ := I.hok d _ h
  rw [hd] at ho
  cases ho
  refine ⟨hd, hx, es, ep, hdt, ?_, fun i q e => ?_⟩
  · have := congrArg List.length he
    simpa using this
  · have : es.toList[i]? = some (entN X.w q) := by rw [he, List.getElem?_map, e]; rfl
    simpa using this
def Itkn (w : World) (d : Addr) (o : Obj) (xs : List (NestedKey × Addr × Value)) : It :=
  ⟨fun i H => H d = some (.frz o (DNO w d xs)) ∧ i < xs.length, fun i H x H' => H' = H ∧ ∃ q, xs[i]? = some q ∧ x = .ref q.2.1, fun i H => H d = some (.frz o (DNO w d xs)) ∧ xs.length ≤ i⟩
theorem turn_keysN (it : Addr) (hod : o.data = .dict es ep) : Turn P w K tg (Itkn w d o xs) [it] it (fun i h => h.IsKeyIter it d i xs.length ep) where
  mem := by simp
  obj := fun i h st b hb => by
    have e : b = it := by simpa using hb
    subst e
    obtain ⟨oi, e, c, dd⟩ := st
    exact ⟨oi, e, fun v z => by rw [dd] at z; cases z⟩
  keep := fun i h h' st k => st.at fun oi e => k it (by simp) oi e
  item := by
    intro X hP hw hK hc i pins s σ H E I hf st hg
    subst hP hw hK
    obtain ⟨hd, hi⟩ := hg
    obtain ⟨f0, f1, f2, f3, f4, f5⟩ := hf it (by simp)
    obtain ⟨hgd, hx, es', ep', hdt, hsz, ent⟩ := frzN I hd
    obtain ⟨rfl, rfl⟩ := dict_ep hod hdt
    obtain ⟨q, hq⟩ : ∃ p, xs[i]? = some p := ⟨xs[i], List.getElem?_eq_getElem hi⟩
    refine next_key_item st hgd hdt hsz (ent i q hq) fun h' st' sb => ?_
    have I1 : Inv X pins σ H { s with heap := h' } := I.turned (t' := s.toks) (fun b ob hb e => (sb.2 b hb).trans e) f0 f1 f3 f4 f5
    obtain ⟨oi, e, c, dd⟩ := id st'
    exact ⟨.ref q.2.1, rfl, go_of (s := { s with heap := h' }) e c dd (by decide) ⟨.ref q.2.1, H, I1, rfl, ⟨rfl, q, hq, rfl⟩, st', fun b hb => (hf b hb).1⟩⟩
  done := by
    intro X hP hw hK hc i pins s σ H E I hf st hg
    subst hP hw hK
    obtain ⟨hd, hi⟩ := hg
    obtain ⟨f0, f1, f2, f3, f4, f5⟩ := hf it (by simp)
    obtain ⟨hgd, hx, es', ep', hdt, hsz, ent⟩ := frzN I hd
    obtain ⟨rfl, rfl⟩ := dict_ep hod hdt
    exact next_key_end (I.ok.hd hc) st hgd hdt hsz hi fun h' eb => ⟨rfl, I.turned (t' := s.toks) (fun b ob hb e => eb b ob hb e) f0 f1 f3 f4 f5⟩
  self := fun A i s Q E st h => by
    refine wpAny_pyIter_slot st.typeIs F.slot_dict_keyiterator_iter (wpAny_call_entry F.slot_dict_keyiterator_iter st.typeIs F.entry_dict_keyiterator_iter ?_ (F.args_dict_keyiterator_iter_1 _))
    show wpAny _ _ (ret (.ref it)) _ _ s
    exact wpAny_pure ⟨_, rfl, "dict_keyiterator", _, st.typeIs, F.slot_dict_keyiterator_next.lookup, h⟩
def iKeysN (w : World) (td : TE) : TI := fun σ H R => td σ H fun x H1 => ∃ d o xs, x = .ref d ∧ H1 d = some (.frz o (DNO w d xs)) ∧ (d == sysModules) = false ∧ R (Itkn w d o xs) H1
theorem pi_keysN {e : Expr} {td : TE} (he : PE X e td) : PI X tg e (iKeysN X.w td) := by
  refine ⟨fun pins s σ H R I h => ?_⟩
  refine thn (he.run pins s σ H _ I h) fun u s1 ⟨x, H1, I1, rx, d, o, xs, ex, hd, hs, q⟩ => ?_
  subst ex
  obtain rfl : u = Value.ref d := rx
  obtain ⟨hgd, hx, es, ep, hdt, hsz, ent⟩ := frzN I1 hd
  refine iter_keys hs hgd hx hdt (pi_one (tk := s1.toks) I1 _ (turn_keysN _ hdt) ⟨_, Heap.get?_push_size _ rfl, rfl, ?_⟩ q)
  rw [hsz] <;> rfl
end
/-- the for over the keys of a locked dict -/
theorem for_keysN {w : World} {d : Addr} {o : Obj} {xs : List (NestedKey × Addr × Value)} {g : TG} {tb : TS} {D : Ends} {σ : L2.St} {H : Hp} (Pv : Nat → L2.St → Hp → Prop) (h0 : Pv 0 σ H) (hl : ∀ i σ H, i ≤ xs.length → Pv i σ H → H d = some (.frz o (DNO w d xs)))
    (hs : ∀ i q σ H, xs[i]? = some q → Pv i σ H → g (.ref q.2.1) σ H fun σ2 H2 => tb { D with nx := Pv (i + 1), ct := Pv (i + 1), bk := D.nx } σ2 H2) (hd : ∀ σ H, Pv xs.length σ H → D.nx σ H) :
    ∃ W : Nat → Nat → L2.St → Hp → Prop, (∃ m, W 0 m σ H) ∧ ∀ i m σ H, W i m σ H →
      ((Itkn w d o xs).stop i H ∧ D.nx σ H) ∨ ((Itkn w d o xs).go i H ∧ ∃ N : L2.St → Hp → Prop, (∀ σ' H', N σ' H' → ∃ m', m' < m ∧ W (i + 1) m' σ' H') ∧ ∀ x H', (Itkn w d o xs).yld i H x H' → g x σ H' fun σ2 H2 => tb { D with nx := N, ct := N, bk := D.nx } σ2 H2) := by
  refine ⟨fun i m σ H => m = xs.length - i ∧ i ≤ xs.length ∧ Pv i σ H, ⟨xs.length, by simp, Nat.zero_le _, h0⟩, ?_⟩
  rintro i m σ H ⟨rfl, hi, p⟩
  have q := hl i σ H hi p
  by_cases hlt : i < xs.length
  · refine .inr ⟨⟨q, hlt⟩, Pv (i + 1), fun σ' H' p' => ⟨xs.length - (i + 1), by omega, rfl, hlt, p'⟩, fun x H' y => ?_⟩
    obtain ⟨e, z, hz, rfl⟩ := y
    subst e
    exact hs i z σ _ hz p
  · have e : i = xs.length := by omega
    subst e
    exact .inl ⟨⟨q, Nat.le_refl _⟩, hd σ H p⟩
/-! ### dict(list of pairs) -/
abbrev PairN (β : Bool) (K : PySem.W.Frag) (H : Hp) (p : Addr) (kv : NestedKey × V) : Prop := ∃ b, SqT K H p [.ref b, kv.2] ∧ NIs β K H kv.1 (.ref b) ∧ kv.1.depth ≤ 8
def putAllN (kvs more : List (NestedKey × V)) : List (NestedKey × V) := more.foldl (fun acc kv => putK acc kv.1 kv.2) kvs
theorem putAllN_len : ∀ (more kvs : List (NestedKey × V)), (putAllN kvs more).length ≤ kvs.length + more.length
  | [], kvs => Nat.le_refl _
  | p :: r, kvs => by
    have h1 := putAllN_len r (putK kvs p.1 p.2)
    have h2 := length_putK kvs p.1 p.2
    show (putAllN (putK kvs p.1 p.2) r).length ≤ _
    rw [List.length_cons]
    omega
theorem KN.putAll {K : PySem.W.Frag} {H : Hp} {more : List (NestedKey × V)} {ys : List (NestedKey × Addr × Value)} (r : KN β K H more ys) : ∀ {kvs : List (NestedKey × V)} {xs : List (NestedKey × Addr × Value)}, KN β K H kvs xs → KN β K H (putAllN kvs more) (storedAllH xs ys) := by
  induction r with
  | nil => exact fun q => q
  | @cons p q ps qs h t ih =>
    intro kvs xs r0
    have e : KN β K H (putK kvs p.1 p.2) (storedH xs q.1 q.2.1 q.2.2) := by
      have := r0.put p.1 (b := q.2.1) h.2.1 h.2.2
      rw [← h.1]
      exact this
    exact ih e
section
variable {X : Cx} {pins : List (Addr × Obj)} {σ : L2.St} {H : Hp} {s : Shared}
theorem pairs_ofN (I : Inv X pins σ H s) {ps : List Addr} {kvs : List (NestedKey × V)} (h : Paired (PairN β X.K H) ps kvs) : ∃ xs, KN β X.K H kvs xs ∧ xs.length = ps.length ∧ ∀ (j : Nat) q, xs[j]? = some q → ∃ p, ps[j]? = some p ∧ s.heap.IsTuple p #[.ref q.2.1, q.2.2] := by
  induction h with
  | nil => exact ⟨[], .nil, rfl, fun j q e => by simp at e⟩
  | @cons p kv ps kvs h t ih =>
    obtain ⟨b, h1, h2, h3⟩ := h
    obtain ⟨xs, r, hl, hp⟩ := ih
    obtain ⟨its, rv, ht, _⟩ := I.tuple h1
    obtain ⟨u, y, ei, ru, ry⟩ := vals2 rv
    subst ei
    obtain rfl : u = Value.ref b := ru
    refine ⟨(kv.1, b, y) :: xs, .cons ⟨rfl, ⟨h2, h3⟩, ry⟩ r, by rw [List.length_cons, List.length_cons, hl], fun j q e => ?_⟩
    cases j with
    | zero =>
      obtain rfl : (kv.1, b, y) = q := Option.some.inj e
      obtain ⟨o, e1, e2, n, e3⟩ := ht
      exact ⟨p, rfl, o, e1, e2, n, e3⟩
    | succ j =>
      obtain ⟨b', e1, e2⟩ := hp j q (by simpa using e)
      exact ⟨b', by simpa using e1, e2⟩
end
def rDictN (K : PySem.W.Frag) (w : World) : List V → Hp → VK → Prop := fun xs H Q => ∃ (a : Addr) (ps : List Addr) (kvs : List (NestedKey × V)) (β : Bool), xs = [.ref a] ∧ SqL K H a (ps.map V.ref) ∧ Paired (PairN β K H) ps kvs ∧ ∀ p H', H p = none → Ex H H' → IsDN β K w H' p (putAllN [] kvs) → Q (.ref p) H'
theorem call_dictN {X : Cx} (hcalm : X.calm = true) (hu : X.A.units + 64 < cLine) : CallR X (.type "dict") (rDictN X.K X.w) := by
  intro pins s σ H xs us Q I r q
  obtain ⟨a, ps, kvs, β, ex, hq, hp, q⟩ := q
  subst ex
  obtain ⟨u, eu, rx⟩ := vals1 r
  subst eu
  cases rx
  obtain ⟨its, rv, pl, hz⟩ := I.list hq
  have ei := refs_at rv
  subst ei
  rw [List.length_map] at hz
  obtain ⟨xs, rel, hl, hpr⟩ := pairs_ofN I hp
  obtain ⟨o, n, ho, hc, hd, hdat⟩ := pl
  have P := PairArg.list (prog := X.prog) (w := X.w) a (ps.map Value.ref).toArray (fun j => ps.getD j 0) (xs.map fun q => (Value.ref q.2.1, q.2.2))
  have isk : ∀ x ∈ xs, (nestedKind X.prog X.w).is s.heap x.1 x.2.1 := by
    have all : ∀ {l : List (NestedKey × V)} {m : List (NestedKey × Addr × Value)}, KN β X.K H l m → ∀ x ∈ m, (nestedKind X.prog X.w).is s.heap x.1 x.2.1 := by
      intro l m q
      induction q with
      | nil => intro x hx; exact nomatch hx
      | @cons p q ps qs hq t ih =>
        intro x hx
        rcases List.mem_cons.mp hx with e | hx
        · subst e
          refine ⟨nis_is I _ (.ref x.2.1) _ (by rw [← hq.1]; exact hq.2.1.1) rfl, ?_⟩
          rw [← hq.1]
          exact hq.2.1.2
        · exact ih x hx
    exact all rel
  refine call_dict_pairsH (knd := nestedKind X.prog X.w) (ps := xs) P (I.ok.hd hcalm) (show X.A.units + 1 + 1 + 8 < cLine by omega) ⟨⟨o, n, ho, hc, hd, hdat⟩, by simp [hl], fun j k v e => ?_⟩ ⟨by simp, fun i key v e => ?_⟩ (fun h' hk x hx => nestedKind_stays.stays (fun b ob vs m e _ => hk b ob (Nat.ne_of_lt (Heap.lt_size e)) (fun z => nomatch z) e) (isk x hx)) (by rw [List.length_map, hl]; exact hz) fun h' tk hd' k => ?_
  · rw [List.getElem?_map] at e
    cases e2 : xs[j]? with
    | none =>
      rw [e2] at e
      cases e
    | some q' =>
      rw [e2] at e
      obtain ⟨p, e3, e4⟩ := hpr j q' e2
      have e := Option.some.inj e
      injection e with e5 e6
      subst e5 e6
      have eg : ps.getD j 0 = p := by rw [List.getD_eq_getElem?_getD, e3]; rfl
      refine ⟨by simp [e3], .inl ?_⟩
      show s.heap.IsTuple (ps.getD j 0) _
      rw [eg]
      exact e4
  · have e : (xs.map fun q => (Value.ref q.2.1, q.2.2))[i]? = some (key, v) := e
    rw [List.getElem?_map] at e
    cases e2 : xs[i]? with
    | none =>
      rw [e2] at e
      cases e
    | some q' =>
      rw [e2] at e
      have e := Option.some.inj e
      injection e with e5 e6
      exact ⟨q'.1, q'.2.1, by rw [← e6], e5.symm⟩
  · have hm : (s.heap.objs.size == sysModules) = false := beq_eq_false_iff_ne.mpr (Nat.ne_of_gt I.big)
    have hn := I.hok.fresh (Nat.le_refl s.heap.objs.size)
    have hlen : (putAllN [] kvs).length ≤ sizeLine := by
      refine Nat.le_trans (putAllN_len kvs []) ?_
      rw [List.length_nil, Nat.zero_add, Paired.length rel, hl]
      exact hz
    have ex : Ex H (L2.upd H s.heap.objs.size (DNO X.w s.heap.objs.size (storedAllH [] xs))) := Evl.Ex.new hn
    have nd : ((storedAllH [] xs).map (·.1)).Nodup := by
      obtain ⟨_, _, _, _, _, _, _, _, n⟩ := hd'
      exact n
    exact ⟨.ref s.heap.objs.size, _, I.laid (t' := tk) (fun b ob e => k b ob (fun z => nomatch z) e) (Nat.le_refl _) (dn_obj hd'), rfl, q _ _ hn ex ⟨_, upd_same, (KN.putAll rel .nil).map fun _ _ => sqT_exN ex, hlen, hm, nd⟩⟩
end My
set_option Elab.async false
set_option linter.all false
set_option maxRecDepth 100000
set_option maxHeartbeats 4000000
/-! comprehensions of two clauses -/
namespace My
open PySem PySem.Spec PyProof.Rows L2
/-- the inner clause, of which Nx holds behind -/
def Inn (D : Addr) (g1 : TG) (tt1 : TT) (te : TE) (σ2 : L2.St) (vs1 : List Nat) (J1 : It) (H4 : Hp) (Nx : Hp → Prop) : Prop := ∃ W1 : Nat → Nat → Hp → Prop, (∃ m, W1 0 m H4) ∧ ∀ j k H, W1 j k H →
  (J1.stop j H ∧ Nx H) ∨ (J1.go j H ∧ ∃ Nx1 : Hp → Prop, (∀ H', Nx1 H' → ∃ k', k' < k ∧ W1 (j + 1) k' H') ∧ ∀ x H', J1.yld j H x H' → g1 x (wipe σ2 vs1) H' fun σ3 H5 => wipe σ3 vs1 = wipe σ2 vs1 ∧ tt1 σ3 H5 fun b H6 =>
    if b = true then te σ3 H6 fun y H7 => ∃ acc, H7 D = some (.lst acc) ∧ acc.length < sizeLine ∧ Nx1 (upd H7 D (.lst (acc ++ [y]))) else Nx1 H6)
theorem lc2_in {J1 : It} {n1 : Nat} {G1 : Hp → Prop} {Y1 : Nat → Hp → V → Hp → Prop} (w : Walk J1 n1 G1 Y1) {D : Addr} {g1 : TG} {tt1 : TT} {te : TE} {σ2 : L2.St} {vs1 : List Nat} {H4 : Hp} {Nx : Hp → Prop} (Pv : Nat → Hp → Prop) (h0 : Pv 0 H4) (hG : ∀ i H, i ≤ n1 → Pv i H → G1 H)
    (hs : ∀ i x H H', i < n1 → Pv i H → Y1 i H x H' → g1 x (wipe σ2 vs1) H' fun σ3 H5 => wipe σ3 vs1 = wipe σ2 vs1 ∧ tt1 σ3 H5 fun b H6 =>
      if b = true then te σ3 H6 fun y H7 => ∃ acc, H7 D = some (.lst acc) ∧ acc.length < sizeLine ∧ Pv (i + 1) (upd H7 D (.lst (acc ++ [y]))) else Pv (i + 1) H6) (hd : ∀ H, Pv n1 H → Nx H) : Inn D g1 tt1 te σ2 vs1 J1 H4 Nx := by
  refine ⟨fun i m H => m = n1 - i ∧ i ≤ n1 ∧ Pv i H, ⟨n1, by simp, Nat.zero_le _, h0⟩, ?_⟩
  rintro i m H ⟨rfl, hi, p⟩
  have q := hG i H hi p
  by_cases hlt : i < n1
  · exact .inr ⟨w.goes i H hlt q, Pv (i + 1), fun H' p' => ⟨n1 - (i + 1), by omega, rfl, hlt, p'⟩, fun x H' y => hs i x H H' hlt p (w.yields i H x H' hlt q y)⟩
  · have e : i = n1 := by omega
    subst e
    exact .inl ⟨w.stops H q, hd H p⟩
theorem lc2_out {J : It} {n : Nat} {G : Hp → Prop} {Y : Nat → Hp → V → Hp → Prop} (w : Walk J n G Y) {g : TG} {tt : TT} {wi1 : TI} {g1 : TG} {tt1 : TT} {te : TE} {vs vs1 : List Nat} {σ : L2.St} {H1 : Hp} {D : Addr} {Qd : Hp → Prop} (Pv : Nat → Hp → Prop) (h0 : Pv 0 (upd H1 D (.lst []))) (hG : ∀ i H, i ≤ n → Pv i H → G H)
    (hs : ∀ i x H H', i < n → Pv i H → Y i H x H' → g x (wipe σ vs) H' fun σ2 H2 => wipe σ2 vs = wipe σ vs ∧ tt σ2 H2 fun b H3 =>
      if b = true then wi1 σ2 H3 fun J1 H4 => Inn D g1 tt1 te σ2 vs1 J1 H4 (Pv (i + 1)) else Pv (i + 1) H3) (hd : ∀ H, Pv n H → Qd H) :
    ∃ W : Nat → Nat → Hp → Prop, (∃ m, W 0 m (upd H1 D (.lst []))) ∧ ∀ i m H, W i m H →
      (J.stop i H ∧ Qd H) ∨ (J.go i H ∧ ∃ Nx : Hp → Prop, (∀ H', Nx H' → ∃ m', m' < m ∧ W (i + 1) m' H') ∧ ∀ x H', J.yld i H x H' → g x (wipe σ vs) H' fun σ2 H2 => wipe σ2 vs = wipe σ vs ∧ tt σ2 H2 fun b H3 =>
        if b = true then wi1 σ2 H3 fun J1 H4 => Inn D g1 tt1 te σ2 vs1 J1 H4 Nx else Nx H3) := by
  refine ⟨fun i m H => m = n - i ∧ i ≤ n ∧ Pv i H, ⟨n, by simp, Nat.zero_le _, h0⟩, ?_⟩
  rintro i m H ⟨rfl, hi, p⟩
  have q := hG i H hi p
  by_cases hlt : i < n
  · exact .inr ⟨w.goes i H hlt q, Pv (i + 1), fun H' p' => ⟨n - (i + 1), by omega, rfl, hlt, p'⟩, fun x H' y => hs i x H H' hlt p (w.yields i H x H' hlt q y)⟩
  · have e : i = n := by omega
    subst e
    exact .inl ⟨w.stops H q, hd H p⟩
end My
set_option Elab.async false
set_option linter.all false
set_option maxRecDepth 100000
set_option maxHeartbeats 4000000
namespace K10
open PySem L2 My
def topS (i : Nat) : Stmt := PySem.Challenge.pw_listwindow_k10_forms_joined_and_counted.main.body.getD i (.Pass ⟨0, 0, 0, 0⟩)
abbrev PR : Program := PySem.Challenge.pw_listwindow_k10_forms_joined_and_counted
abbrev s_init : Stmt := inClass (topS 1) 0
abbrev s_need_column : Stmt := topS 6
theorem sc_need_column : FnScope ["width", "column"] ["width", "column"] (defScope s_need_column) := ⟨rfl, rfl, rfl, by decide +kernel, rfl, by decide +kernel, by decide +kernel⟩
abbrev s_are_keys : Stmt := topS 7
theorem sc_are_keys : FnScope ["sorting", "columns", "column", "sign"] ["sorting"] (defScope s_are_keys) := ⟨rfl, rfl, rfl, by decide +kernel, rfl, by decide +kernel, by decide +kernel⟩
abbrev s_is_sorting_of : Stmt := topS 8
theorem sc_is_sorting_of : FnScope ["width", "sorting", "column", "sign"] ["width", "sorting"] (defScope s_is_sorting_of) := ⟨rfl, rfl, rfl, by decide +kernel, rfl, by decide +kernel, by decide +kernel⟩
abbrev s_need_sorting : Stmt := topS 9
theorem sc_need_sorting : FnScope ["width", "sorting"] ["width", "sorting"] (defScope s_need_sorting) := ⟨rfl, rfl, rfl, by decide +kernel, rfl, by decide +kernel, by decide +kernel⟩
abbrev s_after_click : Stmt := topS 10
theorem sc_after_click : FnScope ["sorting", "column", "key"] ["sorting", "column"] (defScope s_after_click) := ⟨rfl, rfl, rfl, by decide +kernel, rfl, by decide +kernel, by decide +kernel⟩
abbrev s_need_width : Stmt := topS 12
theorem sc_need_width : FnScope ["width"] ["width"] (defScope s_need_width) := ⟨rfl, rfl, rfl, by decide +kernel, rfl, by decide +kernel, by decide +kernel⟩
abbrev s_need_keys : Stmt := topS 13
theorem sc_need_keys : FnScope ["sorting"] ["sorting"] (defScope s_need_keys) := ⟨rfl, rfl, rfl, by decide +kernel, rfl, by decide +kernel, by decide +kernel⟩
abbrev s_all_sortings : Stmt := topS 14
theorem sc_all_sortings : FnScope ["width", "found", "layer", "turn", "longer", "keys", "used", "left", "column", "sign"] ["width"] (defScope s_all_sortings) := ⟨rfl, rfl, rfl, by decide +kernel, rfl, by decide +kernel, by decide +kernel⟩
abbrev s_after_clicks : Stmt := topS 15
theorem sc_after_clicks : FnScope ["sorting", "clicks", "found", "column"] ["sorting", "clicks"] (defScope s_after_clicks) := ⟨rfl, rfl, rfl, by decide +kernel, rfl, by decide +kernel, by decide +kernel⟩
abbrev s_has_form : Stmt := topS 17
theorem sc_has_form : FnScope ["form", "keys", "bound"] ["form"] (defScope s_has_form) := ⟨rfl, rfl, rfl, by decide +kernel, rfl, by decide +kernel, by decide +kernel⟩
abbrev s_need_form : Stmt := topS 18
theorem sc_need_form : FnScope ["form"] ["form"] (defScope s_need_form) := ⟨rfl, rfl, rfl, by decide +kernel, rfl, by decide +kernel, by decide +kernel⟩
abbrev s_columns_of : Stmt := topS 19
theorem sc_columns_of : FnScope ["keys", "column", "sign"] ["keys"] (defScope s_columns_of) := ⟨rfl, rfl, rfl, by decide +kernel, rfl, by decide +kernel, by decide +kernel⟩
abbrev s_is_left_alone : Stmt := topS 20
theorem sc_is_left_alone : FnScope ["clicks", "at"] ["clicks"] (defScope s_is_left_alone) := ⟨rfl, rfl, rfl, by decide +kernel, rfl, by decide +kernel, by decide +kernel⟩
abbrev s_made_form : Stmt := topS 21
theorem sc_made_form : FnScope ["clicks"] ["clicks"] (defScope s_made_form) := ⟨rfl, rfl, rfl, by decide +kernel, rfl, by decide +kernel, by decide +kernel⟩
abbrev s_form_of : Stmt := topS 22
theorem sc_form_of : FnScope ["clicks", "column"] ["clicks"] (defScope s_form_of) := ⟨rfl, rfl, rfl, by decide +kernel, rfl, by decide +kernel, by decide +kernel⟩
abbrev s_made_of : Stmt := topS 23
theorem sc_made_of : FnScope ["form", "sorting", "keys", "bound", "rest", "key"] ["form", "sorting"] (defScope s_made_of) := ⟨rfl, rfl, rfl, by decide +kernel, rfl, by decide +kernel, by decide +kernel⟩
abbrev s_formed : Stmt := topS 24
theorem sc_formed : FnScope ["form", "sorting"] ["form", "sorting"] (defScope s_formed) := ⟨rfl, rfl, rfl, by decide +kernel, rfl, by decide +kernel, by decide +kernel⟩
abbrev s_joined_form : Stmt := topS 25
theorem sc_joined_form : FnScope ["one", "other", "keys", "bound", "column", "stays", "goes_on"] ["one", "other"] (defScope s_joined_form) := ⟨rfl, rfl, rfl, by decide +kernel, rfl, by decide +kernel, by decide +kernel⟩
abbrev s_joined : Stmt := topS 26
theorem sc_joined : FnScope ["one", "other"] ["one", "other"] (defScope s_joined) := ⟨rfl, rfl, rfl, by decide +kernel, rfl, by decide +kernel, by decide +kernel⟩
abbrev s_shortest_clicks : Stmt := topS 27
theorem sc_shortest_clicks : FnScope ["form", "keys", "bound", "found", "column", "sign"] ["form"] (defScope s_shortest_clicks) := ⟨rfl, rfl, rfl, by decide +kernel, rfl, by decide +kernel, by decide +kernel⟩
abbrev s_clicks_for : Stmt := topS 28
theorem sc_clicks_for : FnScope ["form"] ["form"] (defScope s_clicks_for) := ⟨rfl, rfl, rfl, by decide +kernel, rfl, by decide +kernel, by decide +kernel⟩
abbrev s_choices : Stmt := topS 29
theorem sc_choices : FnScope ["width", "many", "found", "turn"] ["width", "many"] (defScope s_choices) := ⟨rfl, rfl, rfl, by decide +kernel, rfl, by decide +kernel, by decide +kernel⟩
abbrev s_number_of_forms : Stmt := topS 30
theorem sc_number_of_forms : FnScope ["width", "many"] ["width"] (defScope s_number_of_forms) := ⟨rfl, rfl, rfl, by decide +kernel, rfl, by decide +kernel, by decide +kernel⟩
abbrev s_repeated : Stmt := topS 31
theorem sc_repeated : FnScope ["form", "times", "keys", "bound", "column", "sign"] ["form", "times"] (defScope s_repeated) := ⟨rfl, rfl, rfl, by decide +kernel, rfl, by decide +kernel, by decide +kernel⟩
abbrev s_number_made : Stmt := topS 32
theorem sc_number_made : FnScope ["width", "form", "column", "left", "many"] ["width", "form"] (defScope s_number_made) := ⟨rfl, rfl, rfl, by decide +kernel, rfl, by decide +kernel, by decide +kernel⟩
abbrev s_all_forms : Stmt := topS 33
theorem sc_all_forms : FnScope ["width", "found", "keys", "bound"] ["width"] (defScope s_all_forms) := ⟨rfl, rfl, rfl, by decide +kernel, rfl, by decide +kernel, by decide +kernel⟩
abbrev s_forms_between : Stmt := topS 34
theorem sc_forms_between : FnScope ["width", "sorting", "goal", "found", "ways", "form", "number", "clicks"] ["width", "sorting", "goal"] (defScope s_forms_between) := ⟨rfl, rfl, rfl, by decide +kernel, rfl, by decide +kernel, by decide +kernel⟩
abbrev s__law_open : Stmt := topS 36
theorem sc__law_open : FnScope ["_law_script", "_law_k", "_law_cell", "_law_seed"] ["_law_script", "_law_k"] (defScope s__law_open) := ⟨rfl, rfl, rfl, by decide +kernel, rfl, by decide +kernel, by decide +kernel⟩
abbrev s__law_draw : Stmt := topS 37
theorem sc__law_draw : FnScope ["_law_deck", "_law_many", "_law_taken", "_law_stir"] ["_law_deck", "_law_many"] (defScope s__law_draw) := ⟨rfl, rfl, rfl, by decide +kernel, rfl, by decide +kernel, by decide +kernel⟩
abbrev s__law_large : Stmt := topS 38
theorem sc__law_large : FnScope ["_law_deck", "_law_limit", "_law_total", "_law_turn"] ["_law_deck", "_law_limit"] (defScope s__law_large) := ⟨rfl, rfl, rfl, by decide +kernel, rfl, by decide +kernel, by decide +kernel⟩
abbrev s__law_clicks : Stmt := topS 39
theorem sc__law_clicks : FnScope ["_law_deck", "_law_width", "_law_most", "_law_found", "_law_turn", "_law_column"] ["_law_deck", "_law_width", "_law_most"] (defScope s__law_clicks) := ⟨rfl, rfl, rfl, by decide +kernel, rfl, by decide +kernel, by decide +kernel⟩
abbrev s__law_click : Stmt := topS 40
theorem sc__law_click : FnScope ["_law_keys_here", "_law_column", "_law_key"] ["_law_keys_here", "_law_column"] (defScope s__law_click) := ⟨rfl, rfl, rfl, by decide +kernel, rfl, by decide +kernel, by decide +kernel⟩
abbrev s__law_after : Stmt := topS 41
theorem sc__law_after : FnScope ["_law_keys_here", "_law_clicks_here", "_law_column"] ["_law_keys_here", "_law_clicks_here"] (defScope s__law_after) := ⟨rfl, rfl, rfl, by decide +kernel, rfl, by decide +kernel, by decide +kernel⟩
abbrev s__law_keys : Stmt := topS 42
theorem sc__law_keys : FnScope ["_law_deck", "_law_width", "_law_left", "_law_found", "_law_turn"] ["_law_deck", "_law_width"] (defScope s__law_keys) := ⟨rfl, rfl, rfl, by decide +kernel, rfl, by decide +kernel, by decide +kernel⟩
abbrev s__law_every : Stmt := topS 43
theorem sc__law_every : FnScope ["_law_width", "_law_found", "_law_layer", "_law_turn", "_law_longer", "_law_keys_here", "_law_used", "_law_column", "_law_sign", "_law_one"] ["_law_width"] (defScope s__law_every) := ⟨rfl, rfl, rfl, by decide +kernel, rfl, by decide +kernel, by decide +kernel⟩
abbrev s__law_lists : Stmt := topS 44
theorem sc__law_lists : FnScope ["_law_width", "_law_size", "_law_found", "_law_turn", "_law_longer", "_law_clicks_here", "_law_column"] ["_law_width", "_law_size"] (defScope s__law_lists) := ⟨rfl, rfl, rfl, by decide +kernel, rfl, by decide +kernel, by decide +kernel⟩
abbrev s__law_first : Stmt := topS 45
theorem sc__law_first : FnScope ["_law_width", "_law_form", "_law_size", "_law_clicks_here"] ["_law_width", "_law_form"] (defScope s__law_first) := ⟨rfl, rfl, rfl, by decide +kernel, rfl, by decide +kernel, by decide +kernel⟩
abbrev s__law_short : Stmt := topS 46
theorem sc__law_short : FnScope ["_law_form", "_law_keys_here", "_law_bound", "_law_found", "_law_column", "_law_sign"] ["_law_form"] (defScope s__law_short) := ⟨rfl, rfl, rfl, by decide +kernel, rfl, by decide +kernel, by decide +kernel⟩
abbrev s__law_great_right : Stmt := topS 47
theorem sc__law_great_right : FnScope ["_law_deck", "_law_width", "_law_clicks_here", "_law_form", "_law_far", "_law_moved", "_law_counts", "_law_made", "_law_column", "_law_sign"] ["_law_deck"] (defScope s__law_great_right) := ⟨rfl, rfl, rfl, by decide +kernel, rfl, by decide +kernel, by decide +kernel⟩
abbrev s__law_counts_right : Stmt := topS 48
theorem sc__law_counts_right : FnScope ["_law_deck", "_law_width", "_law_every_here", "_law_due", "_law_form", "_law_made", "_law_keys_here", "_law_found"] ["_law_deck"] (defScope s__law_counts_right) := ⟨rfl, rfl, rfl, by decide +kernel, rfl, by decide +kernel, by decide +kernel⟩
abbrev s__law_between_right : Stmt := topS 49
theorem sc__law_between_right : FnScope ["_law_deck", "_law_width", "_law_one", "_law_goal", "_law_due", "_law_size", "_law_clicks_here", "_law_form", "_law_found", "_law_k"] ["_law_deck"] (defScope s__law_between_right) := ⟨rfl, rfl, rfl, by decide +kernel, rfl, by decide +kernel, by decide +kernel⟩
abbrev s__law_times_right : Stmt := topS 50
theorem sc__law_times_right : FnScope ["_law_deck", "_law_clicks_here", "_law_form", "_law_times", "_law_due", "_law_kept", "_law_told", "_law_half", "_law_odd", "_law_twice"] ["_law_deck", "_law_clicks_here", "_law_form"] (defScope s__law_times_right) := ⟨rfl, rfl, rfl, by decide +kernel, rfl, by decide +kernel, by decide +kernel⟩
abbrev s__law_right : Stmt := topS 51
theorem sc__law_right : FnScope ["_law_deck", "_law_width", "_law_one", "_law_other", "_law_form", "_law_later", "_law_kept", "_law_both", "_law_short_here"] ["_law_deck"] (defScope s__law_right) := ⟨rfl, rfl, rfl, by decide +kernel, rfl, by decide +kernel, by decide +kernel⟩
abbrev s_law : Stmt := topS 52
theorem sc_law : FnScope ["_law_script", "_law_k"] ["_law_script"] (defScope s_law) := ⟨rfl, rfl, rfl, by decide +kernel, rfl, by decide +kernel, by decide +kernel⟩
structure Txt (K : PySem.W.Frag) (mg : Str → Option Value) where
  a_need_column : Addr
  d_need_column : FuncData
  f_need_column : Fun K "need_column" "need_column" s_need_column a_need_column d_need_column
  g_need_column : mg "need_column" = some (.ref a_need_column)
  a_are_keys : Addr
  d_are_keys : FuncData
  f_are_keys : Fun K "are_keys" "are_keys" s_are_keys a_are_keys d_are_keys
  g_are_keys : mg "are_keys" = some (.ref a_are_keys)
  a_is_sorting_of : Addr
  d_is_sorting_of : FuncData
  f_is_sorting_of : Fun K "is_sorting_of" "is_sorting_of" s_is_sorting_of a_is_sorting_of d_is_sorting_of
  g_is_sorting_of : mg "is_sorting_of" = some (.ref a_is_sorting_of)
  a_need_sorting : Addr
  d_need_sorting : FuncData
  f_need_sorting : Fun K "need_sorting" "need_sorting" s_need_sorting a_need_sorting d_need_sorting
  g_need_sorting : mg "need_sorting" = some (.ref a_need_sorting)
  a_after_click : Addr
  d_after_click : FuncData
  f_after_click : Fun K "after_click" "after_click" s_after_click a_after_click d_after_click
  g_after_click : mg "after_click" = some (.ref a_after_click)
  a_need_width : Addr
  d_need_width : FuncData
  f_need_width : Fun K "need_width" "need_width" s_need_width a_need_width d_need_width
  g_need_width : mg "need_width" = some (.ref a_need_width)
  a_need_keys : Addr
  d_need_keys : FuncData
  f_need_keys : Fun K "need_keys" "need_keys" s_need_keys a_need_keys d_need_keys
  g_need_keys : mg "need_keys" = some (.ref a_need_keys)
  a_all_sortings : Addr
  d_all_sortings : FuncData
  f_all_sortings : Fun K "all_sortings" "all_sortings" s_all_sortings a_all_sortings d_all_sortings
  g_all_sortings : mg "all_sortings" = some (.ref a_all_sortings)
  a_after_clicks : Addr
  d_after_clicks : FuncData
  f_after_clicks : Fun K "after_clicks" "after_clicks" s_after_clicks a_after_clicks d_after_clicks
  g_after_clicks : mg "after_clicks" = some (.ref a_after_clicks)
  a_has_form : Addr
  d_has_form : FuncData
  f_has_form : Fun K "has_form" "has_form" s_has_form a_has_form d_has_form
  g_has_form : mg "has_form" = some (.ref a_has_form)
  a_need_form : Addr
  d_need_form : FuncData
  f_need_form : Fun K "need_form" "need_form" s_need_form a_need_form d_need_form
  g_need_form : mg "need_form" = some (.ref a_need_form)
  a_columns_of : Addr
  d_columns_of : FuncData
  f_columns_of : Fun K "columns_of" "columns_of" s_columns_of a_columns_of d_columns_of
  g_columns_of : mg "columns_of" = some (.ref a_columns_of)
  a_is_left_alone : Addr
  d_is_left_alone : FuncData
  f_is_left_alone : Fun K "is_left_alone" "is_left_alone" s_is_left_alone a_is_left_alone d_is_left_alone
  g_is_left_alone : mg "is_left_alone" = some (.ref a_is_left_alone)
  a_made_form : Addr
  d_made_form : FuncData
  f_made_form : Fun K "made_form" "made_form" s_made_form a_made_form d_made_form
  g_made_form : mg "made_form" = some (.ref a_made_form)
  a_form_of : Addr
  d_form_of : FuncData
  f_form_of : Fun K "form_of" "form_of" s_form_of a_form_of d_form_of
  g_form_of : mg "form_of" = some (.ref a_form_of)
  a_made_of : Addr
  d_made_of : FuncData
  f_made_of : Fun K "made_of" "made_of" s_made_of a_made_of d_made_of
  g_made_of : mg "made_of" = some (.ref a_made_of)
  a_formed : Addr
  d_formed : FuncData
  f_formed : Fun K "formed" "formed" s_formed a_formed d_formed
  g_formed : mg "formed" = some (.ref a_formed)
  a_joined_form : Addr
  d_joined_form : FuncData
  f_joined_form : Fun K "joined_form" "joined_form" s_joined_form a_joined_form d_joined_form
  g_joined_form : mg "joined_form" = some (.ref a_joined_form)
  a_joined : Addr
  d_joined : FuncData
  f_joined : Fun K "joined" "joined" s_joined a_joined d_joined
  g_joined : mg "joined" = some (.ref a_joined)
  a_shortest_clicks : Addr
  d_shortest_clicks : FuncData
  f_shortest_clicks : Fun K "shortest_clicks" "shortest_clicks" s_shortest_clicks a_shortest_clicks d_shortest_clicks
  g_shortest_clicks : mg "shortest_clicks" = some (.ref a_shortest_clicks)
  a_clicks_for : Addr
  d_clicks_for : FuncData
  f_clicks_for : Fun K "clicks_for" "clicks_for" s_clicks_for a_clicks_for d_clicks_for
  g_clicks_for : mg "clicks_for" = some (.ref a_clicks_for)
  a_choices : Addr
  d_choices : FuncData
  f_choices : Fun K "choices" "choices" s_choices a_choices d_choices
  g_choices : mg "choices" = some (.ref a_choices)
  a_number_of_forms : Addr
  d_number_of_forms : FuncData
  f_number_of_forms : Fun K "number_of_forms" "number_of_forms" s_number_of_forms a_number_of_forms d_number_of_forms
  g_number_of_forms : mg "number_of_forms" = some (.ref a_number_of_forms)
  a_repeated : Addr
  d_repeated : FuncData
  f_repeated : Fun K "repeated" "repeated" s_repeated a_repeated d_repeated
  g_repeated : mg "repeated" = some (.ref a_repeated)
  a_number_made : Addr
  d_number_made : FuncData
  f_number_made : Fun K "number_made" "number_made" s_number_made a_number_made d_number_made
  g_number_made : mg "number_made" = some (.ref a_number_made)
  a_all_forms : Addr
  d_all_forms : FuncData
  f_all_forms : Fun K "all_forms" "all_forms" s_all_forms a_all_forms d_all_forms
  g_all_forms : mg "all_forms" = some (.ref a_all_forms)
  a_forms_between : Addr
  d_forms_between : FuncData
  f_forms_between : Fun K "forms_between" "forms_between" s_forms_between a_forms_between d_forms_between
  g_forms_between : mg "forms_between" = some (.ref a_forms_between)
  a__law_open : Addr
  d__law_open : FuncData
  f__law_open : Fun K "_law_open" "_law_open" s__law_open a__law_open d__law_open
  g__law_open : mg "_law_open" = some (.ref a__law_open)
  a__law_draw : Addr
  d__law_draw : FuncData
  f__law_draw : Fun K "_law_draw" "_law_draw" s__law_draw a__law_draw d__law_draw
  g__law_draw : mg "_law_draw" = some (.ref a__law_draw)
  a__law_large : Addr
  d__law_large : FuncData
  f__law_large : Fun K "_law_large" "_law_large" s__law_large a__law_large d__law_large
  g__law_large : mg "_law_large" = some (.ref a__law_large)
  a__law_clicks : Addr
  d__law_clicks : FuncData
  f__law_clicks : Fun K "_law_clicks" "_law_clicks" s__law_clicks a__law_clicks d__law_clicks
  g__law_clicks : mg "_law_clicks" = some (.ref a__law_clicks)
  a__law_click : Addr
  d__law_click : FuncData
  f__law_click : Fun K "_law_click" "_law_click" s__law_click a__law_click d__law_click
  g__law_click : mg "_law_click" = some (.ref a__law_click)
  a__law_after : Addr
  d__law_after : FuncData
  f__law_after : Fun K "_law_after" "_law_after" s__law_after a__law_after d__law_after
  g__law_after : mg "_law_after" = some (.ref a__law_after)
  a__law_keys : Addr
  d__law_keys : FuncData
  f__law_keys : Fun K "_law_keys" "_law_keys" s__law_keys a__law_keys d__law_keys
  g__law_keys : mg "_law_keys" = some (.ref a__law_keys)
  a__law_every : Addr
  d__law_every : FuncData
  f__law_every : Fun K "_law_every" "_law_every" s__law_every a__law_every d__law_every
  g__law_every : mg "_law_every" = some (.ref a__law_every)
  a__law_lists : Addr
  d__law_lists : FuncData
  f__law_lists : Fun K "_law_lists" "_law_lists" s__law_lists a__law_lists d__law_lists
  g__law_lists : mg "_law_lists" = some (.ref a__law_lists)
  a__law_first : Addr
  d__law_first : FuncData
  f__law_first : Fun K "_law_first" "_law_first" s__law_first a__law_first d__law_first
  g__law_first : mg "_law_first" = some (.ref a__law_first)
  a__law_short : Addr
  d__law_short : FuncData
  f__law_short : Fun K "_law_short" "_law_short" s__law_short a__law_short d__law_short
  g__law_short : mg "_law_short" = some (.ref a__law_short)
  a__law_great_right : Addr
  d__law_great_right : FuncData
  f__law_great_right : Fun K "_law_great_right" "_law_great_right" s__law_great_right a__law_great_right d__law_great_right
  g__law_great_right : mg "_law_great_right" = some (.ref a__law_great_right)
  a__law_counts_right : Addr
  d__law_counts_right : FuncData
  f__law_counts_right : Fun K "_law_counts_right" "_law_counts_right" s__law_counts_right a__law_counts_right d__law_counts_right
  g__law_counts_right : mg "_law_counts_right" = some (.ref a__law_counts_right)
  a__law_between_right : Addr
  d__law_between_right : FuncData
  f__law_between_right : Fun K "_law_between_right" "_law_between_right" s__law_between_right a__law_between_right d__law_between_right
  g__law_between_right : mg "_law_between_right" = some (.ref a__law_between_right)
  a__law_times_right : Addr
  d__law_times_right : FuncData
  f__law_times_right : Fun K "_law_times_right" "_law_times_right" s__law_times_right a__law_times_right d__law_times_right
  g__law_times_right : mg "_law_times_right" = some (.ref a__law_times_right)
  a__law_right : Addr
  d__law_right : FuncData
  f__law_right : Fun K "_law_right" "_law_right" s__law_right a__law_right d__law_right
  g__law_right : mg "_law_right" = some (.ref a__law_right)
  a_law : Addr
  d_law : FuncData
  f_law : Fun K "law" "law" s_law a_law d_law
  g_law : mg "law" = some (.ref a_law)
  fI : Addr
  cI : Addr
  cdI : Addr
  dD : Addr
  dI : FuncData
  iT : InitT PR K mg s_init "WindowError.__init__" fI cI cdI dD dI
  c_WindowError : Addr
  e_WindowError : ErrC K fI dD c_WindowError
  g_WindowError : mg "WindowError" = some (.ref c_WindowError)
  c_InvalidNumber : Addr
  e_InvalidNumber : ErrC K fI dD c_InvalidNumber
  g_InvalidNumber : mg "InvalidNumber" = some (.ref c_InvalidNumber)
  c_InvalidColumn : Addr
  e_InvalidColumn : ErrC K fI dD c_InvalidColumn
  g_InvalidColumn : mg "InvalidColumn" = some (.ref c_InvalidColumn)
  c_InvalidSorting : Addr
  e_InvalidSorting : ErrC K fI dD c_InvalidSorting
  g_InvalidSorting : mg "InvalidSorting" = some (.ref c_InvalidSorting)
  z_all : mg "all" = none
  z_len : mg "len" = none
  z_set : mg "set" = none
  z_list : mg "list" = none
  z_range : mg "range" = none
  z_min : mg "min" = none
  z_sum : mg "sum" = none
  z_sorted : mg "sorted" = none
  z_max : mg "max" = none
  z_int : mg "int" = none
  z_abs : mg "abs" = none
  z_repr : mg "repr" = none
theorem ok_init {w : World} {K : PySem.W.Frag} {mg : Str → Option Value} {base : Heap} (T : Txt K mg) : FnOk PR w K mg base CX0 1 T.fI T.dI ["self", "value"] (spErr K T.fI T.dD) := ok_err T.iT (NdefX.nscope_by (by decide +kernel)) rfl rfl rfl (fun env => rfl)
theorem b_init {K : PySem.W.Frag} {mg : Str → Option Value} (T : Txt K mg) : Binds K T.dI ["self", "value"] [] := by
  obtain ⟨oc, od, kV, doc, pm, an, ct, osl, e, lk⟩ := T.iT.ex
  rw [e]
  exact .all fun us hl => match us, hl with | [_, _], _ => rfl
theorem b_need_column {K : PySem.W.Frag} {mg : Str → Option Value} (T : Txt K mg) : Binds K T.d_need_column ["width", "column"] [] := T.f_need_column.binds (ps := ["width", "column"]) fun _ _ _ _ _ _ us hl => match us, hl with | [_, _], _ => rfl
theorem b_are_keys {K : PySem.W.Frag} {mg : Str → Option Value} (T : Txt K mg) : Binds K T.d_are_keys ["sorting"] [] := T.f_are_keys.binds (ps := ["sorting"]) fun _ _ _ _ _ _ us hl => match us, hl with | [_], _ => rfl
theorem b_is_sorting_of {K : PySem.W.Frag} {mg : Str → Option Value} (T : Txt K mg) : Binds K T.d_is_sorting_of ["width", "sorting"] [] := T.f_is_sorting_of.binds (ps := ["width", "sorting"]) fun _ _ _ _ _ _ us hl => match us, hl with | [_, _], _ => rfl
theorem b_need_sorting {K : PySem.W.Frag} {mg : Str → Option Value} (T : Txt K mg) : Binds K T.d_need_sorting ["width", "sorting"] [] := T.f_need_sorting.binds (ps := ["width", "sorting"]) fun _ _ _ _ _ _ us hl => match us, hl with | [_, _], _ => rfl
theorem b_after_click {K : PySem.W.Frag} {mg : Str → Option Value} (T : Txt K mg) : Binds K T.d_after_click ["sorting", "column"] [] := T.f_after_click.binds (ps := ["sorting", "column"]) fun _ _ _ _ _ _ us hl => match us, hl with | [_, _], _ => rfl
theorem b_need_width {K : PySem.W.Frag} {mg : Str → Option Value} (T : Txt K mg) : Binds K T.d_need_width ["width"] [] := T.f_need_width.binds (ps := ["width"]) fun _ _ _ _ _ _ us hl => match us, hl with | [_], _ => rfl
theorem b_need_keys {K : PySem.W.Frag} {mg : Str → Option Value} (T : Txt K mg) : Binds K T.d_need_keys ["sorting"] [] := T.f_need_keys.binds (ps := ["sorting"]) fun _ _ _ _ _ _ us hl => match us, hl with | [_], _ => rfl
theorem b_all_sortings {K : PySem.W.Frag} {mg : Str → Option Value} (T : Txt K mg) : Binds K T.d_all_sortings ["width"] [] := T.f_all_sortings.binds (ps := ["width"]) fun _ _ _ _ _ _ us hl => match us, hl with | [_], _ => rfl
theorem b_after_clicks {K : PySem.W.Frag} {mg : Str → Option Value} (T : Txt K mg) : Binds K T.d_after_clicks ["sorting", "clicks"] [] := T.f_after_clicks.binds (ps := ["sorting", "clicks"]) fun _ _ _ _ _ _ us hl => match us, hl with | [_, _], _ => rfl
theorem b_has_form {K : PySem.W.Frag} {mg : Str → Option Value} (T : Txt K mg) : Binds K T.d_has_form ["form"] [] := T.f_has_form.binds (ps := ["form"]) fun _ _ _ _ _ _ us hl => match us, hl with | [_], _ => rfl
theorem b_need_form {K : PySem.W.Frag} {mg : Str → Option Value} (T : Txt K mg) : Binds K T.d_need_form ["form"] [] := T.f_need_form.binds (ps := ["form"]) fun _ _ _ _ _ _ us hl => match us, hl with | [_], _ => rfl
theorem b_columns_of {K : PySem.W.Frag} {mg : Str → Option Value} (T : Txt K mg) : Binds K T.d_columns_of ["keys"] [] := T.f_columns_of.binds (ps := ["keys"]) fun _ _ _ _ _ _ us hl => match us, hl with | [_], _ => rfl
theorem b_is_left_alone {K : PySem.W.Frag} {mg : Str → Option Value} (T : Txt K mg) : Binds K T.d_is_left_alone ["clicks"] [] := T.f_is_left_alone.binds (ps := ["clicks"]) fun _ _ _ _ _ _ us hl => match us, hl with | [_], _ => rfl
theorem b_made_form {K : PySem.W.Frag} {mg : Str → Option Value} (T : Txt K mg) : Binds K T.d_made_form ["clicks"] [] := T.f_made_form.binds (ps := ["clicks"]) fun _ _ _ _ _ _ us hl => match us, hl with | [_], _ => rfl
theorem b_form_of {K : PySem.W.Frag} {mg : Str → Option Value} (T : Txt K mg) : Binds K T.d_form_of ["clicks"] [] := T.f_form_of.binds (ps := ["clicks"]) fun _ _ _ _ _ _ us hl => match us, hl with | [_], _ => rfl
theorem b_made_of {K : PySem.W.Frag} {mg : Str → Option Value} (T : Txt K mg) : Binds K T.d_made_of ["form", "sorting"] [] := T.f_made_of.binds (ps := ["form", "sorting"]) fun _ _ _ _ _ _ us hl => match us, hl with | [_, _], _ => rfl
theorem b_formed {K : PySem.W.Frag} {mg : Str → Option Value} (T : Txt K mg) : Binds K T.d_formed ["form", "sorting"] [] := T.f_formed.binds (ps := ["form", "sorting"]) fun _ _ _ _ _ _ us hl => match us, hl with | [_, _], _ => rfl
theorem b_joined_form {K : PySem.W.Frag} {mg : Str → Option Value} (T : Txt K mg) : Binds K T.d_joined_form ["one", "other"] [] := T.f_joined_form.binds (ps := ["one", "other"]) fun _ _ _ _ _ _ us hl => match us, hl with | [_, _], _ => rfl
theorem b_joined {K : PySem.W.Frag} {mg : Str → Option Value} (T : Txt K mg) : Binds K T.d_joined ["one", "other"] [] := T.f_joined.binds (ps := ["one", "other"]) fun _ _ _ _ _ _ us hl => match us, hl with | [_, _], _ => rfl
theorem b_shortest_clicks {K : PySem.W.Frag} {mg : Str → Option Value} (T : Txt K mg) : Binds K T.d_shortest_clicks ["form"] [] := T.f_shortest_clicks.binds (ps := ["form"]) fun _ _ _ _ _ _ us hl => match us, hl with | [_], _ => rfl
theorem b_clicks_for {K : PySem.W.Frag} {mg : Str → Option Value} (T : Txt K mg) : Binds K T.d_clicks_for ["form"] [] := T.f_clicks_for.binds (ps := ["form"]) fun _ _ _ _ _ _ us hl => match us, hl with | [_], _ => rfl
theorem b_choices {K : PySem.W.Frag} {mg : Str → Option Value} (T : Txt K mg) : Binds K T.d_choices ["width", "many"] [] := T.f_choices.binds (ps := ["width", "many"]) fun _ _ _ _ _ _ us hl => match us, hl with | [_, _], _ => rfl
theorem b_number_of_forms {K : PySem.W.Frag} {mg : Str → Option Value} (T : Txt K mg) : Binds K T.d_number_of_forms ["width"] [] := T.f_number_of_forms.binds (ps := ["width"]) fun _ _ _ _ _ _ us hl => match us, hl with | [_], _ => rfl
theorem b_repeated {K : PySem.W.Frag} {mg : Str → Option Value} (T : Txt K mg) : Binds K T.d_repeated ["form", "times"] [] := T.f_repeated.binds (ps := ["form", "times"]) fun _ _ _ _ _ _ us hl => match us, hl with | [_, _], _ => rfl
theorem b_number_made {K : PySem.W.Frag} {mg : Str → Option Value} (T : Txt K mg) : Binds K T.d_number_made ["width", "form"] [] := T.f_number_made.binds (ps := ["width", "form"]) fun _ _ _ _ _ _ us hl => match us, hl with | [_, _], _ => rfl
theorem b_all_forms {K : PySem.W.Frag} {mg : Str → Option Value} (T : Txt K mg) : Binds K T.d_all_forms ["width"] [] := T.f_all_forms.binds (ps := ["width"]) fun _ _ _ _ _ _ us hl => match us, hl with | [_], _ => rfl
theorem b_forms_between {K : PySem.W.Frag} {mg : Str → Option Value} (T : Txt K mg) : Binds K T.d_forms_between ["width", "sorting", "goal"] [] := T.f_forms_between.binds (ps := ["width", "sorting", "goal"]) fun _ _ _ _ _ _ us hl => match us, hl with | [_, _, _], _ => rfl
theorem b__law_open {K : PySem.W.Frag} {mg : Str → Option Value} (T : Txt K mg) : Binds K T.d__law_open ["_law_script", "_law_k"] [] := T.f__law_open.binds (ps := ["_law_script", "_law_k"]) fun _ _ _ _ _ _ us hl => match us, hl with | [_, _], _ => rfl
theorem b__law_draw {K : PySem.W.Frag} {mg : Str → Option Value} (T : Txt K mg) : Binds K T.d__law_draw ["_law_deck", "_law_many"] [] := T.f__law_draw.binds (ps := ["_law_deck", "_law_many"]) fun _ _ _ _ _ _ us hl => match us, hl with | [_, _], _ => rfl
theorem b__law_large {K : PySem.W.Frag} {mg : Str → Option Value} (T : Txt K mg) : Binds K T.d__law_large ["_law_deck", "_law_limit"] [] := T.f__law_large.binds (ps := ["_law_deck", "_law_limit"]) fun _ _ _ _ _ _ us hl => match us, hl with | [_, _], _ => rfl
theorem b__law_clicks {K : PySem.W.Frag} {mg : Str → Option Value} (T : Txt K mg) : Binds K T.d__law_clicks ["_law_deck", "_law_width", "_law_most"] [] := T.f__law_clicks.binds (ps := ["_law_deck", "_law_width", "_law_most"]) fun _ _ _ _ _ _ us hl => match us, hl with | [_, _, _], _ => rfl
theorem b__law_click {K : PySem.W.Frag} {mg : Str → Option Value} (T : Txt K mg) : Binds K T.d__law_click ["_law_keys_here", "_law_column"] [] := T.f__law_click.binds (ps := ["_law_keys_here", "_law_column"]) fun _ _ _ _ _ _ us hl => match us, hl with | [_, _], _ => rfl
theorem b__law_after {K : PySem.W.Frag} {mg : Str → Option Value} (T : Txt K mg) : Binds K T.d__law_after ["_law_keys_here", "_law_clicks_here"] [] := T.f__law_after.binds (ps := ["_law_keys_here", "_law_clicks_here"]) fun _ _ _ _ _ _ us hl => match us, hl with | [_, _], _ => rfl
theorem b__law_keys {K : PySem.W.Frag} {mg : Str → Option Value} (T : Txt K mg) : Binds K T.d__law_keys ["_law_deck", "_law_width"] [] := T.f__law_keys.binds (ps := ["_law_deck", "_law_width"]) fun _ _ _ _ _ _ us hl => match us, hl with | [_, _], _ => rfl
theorem b__law_every {K : PySem.W.Frag} {mg : Str → Option Value} (T : Txt K mg) : Binds K T.d__law_every ["_law_width"] [] := T.f__law_every.binds (ps := ["_law_width"]) fun _ _ _ _ _ _ us hl => match us, hl with | [_], _ => rfl
theorem b__law_lists {K : PySem.W.Frag} {mg : Str → Option Value} (T : Txt K mg) : Binds K T.d__law_lists ["_law_width", "_law_size"] [] := T.f__law_lists.binds (ps := ["_law_width", "_law_size"]) fun _ _ _ _ _ _ us hl => match us, hl with | [_, _], _ => rfl
theorem b__law_first {K : PySem.W.Frag} {mg : Str → Option Value} (T : Txt K mg) : Binds K T.d__law_first ["_law_width", "_law_form"] [] := T.f__law_first.binds (ps := ["_law_width", "_law_form"]) fun _ _ _ _ _ _ us hl => match us, hl with | [_, _], _ => rfl
theorem b__law_short {K : PySem.W.Frag} {mg : Str → Option Value} (T : Txt K mg) : Binds K T.d__law_short ["_law_form"] [] := T.f__law_short.binds (ps := ["_law_form"]) fun _ _ _ _ _ _ us hl => match us, hl with | [_], _ => rfl
theorem b__law_great_right {K : PySem.W.Frag} {mg : Str → Option Value} (T : Txt K mg) : Binds K T.d__law_great_right ["_law_deck"] [] := T.f__law_great_right.binds (ps := ["_law_deck"]) fun _ _ _ _ _ _ us hl => match us, hl with | [_], _ => rfl
theorem b__law_counts_right {K : PySem.W.Frag} {mg : Str → Option Value} (T : Txt K mg) : Binds K T.d__law_counts_right ["_law_deck"] [] := T.f__law_counts_right.binds (ps := ["_law_deck"]) fun _ _ _ _ _ _ us hl => match us, hl with | [_], _ => rfl
theorem b__law_between_right {K : PySem.W.Frag} {mg : Str → Option Value} (T : Txt K mg) : Binds K T.d__law_between_right ["_law_deck"] [] := T.f__law_between_right.binds (ps := ["_law_deck"]) fun _ _ _ _ _ _ us hl => match us, hl with | [_], _ => rfl
theorem b__law_times_right {K : PySem.W.Frag} {mg : Str → Option Value} (T : Txt K mg) : Binds K T.d__law_times_right ["_law_deck", "_law_clicks_here", "_law_form"] [] := T.f__law_times_right.binds (ps := ["_law_deck", "_law_clicks_here", "_law_form"]) fun _ _ _ _ _ _ us hl => match us, hl with | [_, _, _], _ => rfl
theorem b__law_right {K : PySem.W.Frag} {mg : Str → Option Value} (T : Txt K mg) : Binds K T.d__law_right ["_law_deck"] [] := T.f__law_right.binds (ps := ["_law_deck"]) fun _ _ _ _ _ _ us hl => match us, hl with | [_], _ => rfl
theorem b_law {K : PySem.W.Frag} {mg : Str → Option Value} (T : Txt K mg) : Binds K T.d_law ["_law_script"] [] := T.f_law.binds (ps := ["_law_script"]) fun _ _ _ _ _ _ us hl => match us, hl with | [_], _ => rfl
theorem kb_number_of_forms_0_width {K : PySem.W.Frag} {mg : Str → Option Value} (T : Txt K mg) : KBinds K T.d_number_of_forms ["width"] ["width"] (kg 0 1 [0]) (kg 0 1 [0]) := kbinds 0 1 [0] T.f_number_of_forms (by decide) fun _ _ _ _ _ _ us ws h1 h2 => match us, h1, ws, h2 with | [], _, [_], _ => rfl
theorem kb_number_made_0_form_width {K : PySem.W.Frag} {mg : Str → Option Value} (T : Txt K mg) : KBinds K T.d_number_made ["width", "form"] ["form", "width"] (kg 0 2 [1, 0]) (kg 0 2 [1, 0]) := kbinds 0 2 [1, 0] T.f_number_made (by decide) fun _ _ _ _ _ _ us ws h1 h2 => match us, h1, ws, h2 with | [], _, [_, _], _ => rfl
theorem kb_forms_between_0_goal_sorting_width {K : PySem.W.Frag} {mg : Str → Option Value} (T : Txt K mg) : KBinds K T.d_forms_between ["width", "sorting", "goal"] ["goal", "sorting", "width"] (kg 0 3 [2, 1, 0]) (kg 0 3 [2, 1, 0]) := kbinds 0 3 [2, 1, 0] T.f_forms_between (by decide) fun _ _ _ _ _ _ us ws h1 h2 => match us, h1, ws, h2 with | [], _, [_, _, _], _ => rfl
theorem kb_repeated_0_times_form {K : PySem.W.Frag} {mg : Str → Option Value} (T : Txt K mg) : KBinds K T.d_repeated ["form", "times"] ["times", "form"] (kg 0 2 [1, 0]) (kg 0 2 [1, 0]) := kbinds 0 2 [1, 0] T.f_repeated (by decide) fun _ _ _ _ _ _ us ws h1 h2 => match us, h1, ws, h2 with | [], _, [_, _], _ => rfl
theorem kb_joined_0_other_one {K : PySem.W.Frag} {mg : Str → Option Value} (T : Txt K mg) : KBinds K T.d_joined ["one", "other"] ["other", "one"] (kg 0 2 [1, 0]) (kg 0 2 [1, 0]) := kbinds 0 2 [1, 0] T.f_joined (by decide) fun _ _ _ _ _ _ us ws h1 h2 => match us, h1, ws, h2 with | [], _, [_, _], _ => rfl
theorem kb_clicks_for_0_form {K : PySem.W.Frag} {mg : Str → Option Value} (T : Txt K mg) : KBinds K T.d_clicks_for ["form"] ["form"] (kg 0 1 [0]) (kg 0 1 [0]) := kbinds 0 1 [0] T.f_clicks_for (by decide) fun _ _ _ _ _ _ us ws h1 h2 => match us, h1, ws, h2 with | [], _, [_], _ => rfl
end K10
set_option Elab.async false
set_option pp.maxSteps 1200
set_option linter.all false
set_option maxRecDepth 100000
set_option maxHeartbeats 4000000
/-! Clicks on heads, their forms: no program in sight. -/
namespace K10
abbrev Ky := Int × Int
def cols (ks : List Ky) : List Int := ks.map (·.1)
def click (ks : List Ky) (c : Int) : List Ky := match ks with
  | k :: r => if k.1 = c then (c, -k.2) :: r else (c, 1) :: (k :: r).filter (fun x => !decide (x.1 = c))
  | [] => [(c, 1)]
def afterL (s : List Ky) (cs : List Int) : List Ky := cs.foldl click s
def leftAlone (cs : List Int) : Bool := match cs with
  | [] => false
  | c0 :: r => !decide (c0 ∈ (c0 :: r).dropWhile (fun c => decide (c = c0)))
abbrev Fm := List Ky × Bool
def formL (cs : List Int) : Fm := (afterL [] cs, leftAlone cs)
def okK (k : Ky) : Bool := decide (0 ≤ k.1) && decide (k.2 ∈ [1, (-1 : Int)])
def areKeys (ks : List Ky) : Bool := decide ((cols ks).Nodup) && ks.all okK
def hasForm (f : Fm) : Bool := areKeys f.1 && (decide (f.2 = decide (f.1 ≠ [])) || decide (f.1.length > 1))
def lastC (ks : List Ky) : Int := (ks.getLast?.getD (0, 0)).1
def restL (ks s : List Ky) : List Ky := s.filter fun k => !decide (k.1 ∈ cols ks)
def flipL (ks : List Ky) : List Ky := match ks.getLast? with
  | none => []
  | some k => ks.dropLast ++ [(k.1, -k.2)]
def fl (b : Bool) (ks : List Ky) : List Ky := if b = true then flipL ks else ks
def hit (f : Fm) (s : List Ky) : Bool := f.2 && decide (s.head? = some (lastC f.1, 1))
def madeOf (f : Fm) (s : List Ky) : List Ky := fl (hit f s) f.1 ++ restL f.1 s
/-- valid keys -/
structure Vd (ks : List Ky) : Prop where
  nd : (cols ks).Nodup
  sg : ∀ k ∈ ks, k.2 = 1 ∨ k.2 = -1
theorem Vd.nil : Vd [] := ⟨List.nodup_nil, fun k h => by cases h⟩
theorem afterL_snoc (s : List Ky) (cs : List Int) (c : Int) : afterL s (cs ++ [c]) = click (afterL s cs) c := by
  unfold afterL
  rw [List.foldl_append]
  rfl
theorem filter_ne {ks : List Ky} {c : Int} (h : c ∉ cols ks) : ks.filter (fun x => !decide (x.1 = c)) = ks := by
  rw [List.filter_eq_self]
  intro k hk
  have : k.1 ≠ c := fun e => h (List.mem_map.mpr ⟨k, hk, e⟩)
  simp [this]
theorem cols_filter (ks : List Ky) (c : Int) : cols (ks.filter (fun x => !decide (x.1 = c))) = (cols ks).filter (fun x => !decide (x = c)) := by
  unfold cols
  rw [List.filter_map]
  rfl
theorem Vd.click {ks : List Ky} (h : Vd ks) (c : Int) : Vd (click ks c) := by
  cases ks with
  | nil => exact ⟨by simp [K10.click, cols], fun k hk => by rw [List.mem_singleton.mp hk]; exact .inl rfl⟩
  | cons k r =>
    show Vd (if k.1 = c then (c, -k.2) :: r else (c, 1) :: (k :: r).filter (fun x => !decide (x.1 = c)))
    by_cases e : k.1 = c
    · rw [if_pos e]
      refine ⟨?_, fun x hx => ?_⟩
      · have := h.nd
        simpa [cols, e] using this
      · rcases List.mem_cons.mp hx with z | z
        · rw [z]
          rcases h.sg k List.mem_cons_self with y | y <;> simp [y]
        · exact h.sg x (List.mem_cons_of_mem _ z)
    · rw [if_neg e]
      refine ⟨?_, fun x hx => ?_⟩
      · show (c :: cols ((k :: r).filter _)).Nodup
        rw [cols_filter, List.nodup_cons]
        exact ⟨by simp, h.nd.filter _⟩
      · rcases List.mem_cons.mp hx with z | z
        · rw [z]; exact .inl rfl
        · exact h.sg x (List.mem_filter.mp z).1
theorem Vd.after : ∀ {cs : List Int} {s : List Ky}, Vd s → Vd (afterL s cs)
  | [], _, h => h
  | c :: cs, _, h => Vd.after (cs := cs) (h.click c)
theorem click_ne (ks : List Ky) (c : Int) : click ks c ≠ [] := by
  cases ks with
  | nil => simp [click]
  | cons k r =>
    show (if k.1 = c then (c, -k.2) :: r else _) ≠ []
    split <;> simp
theorem click_cols {ks : List Ky} {c x : Int} : x ∈ cols (click ks c) ↔ x = c ∨ x ∈ cols ks := by
  cases ks with
  | nil => simp [click, cols]
  | cons k r =>
    show x ∈ cols (if k.1 = c then (c, -k.2) :: r else (c, 1) :: (k :: r).filter (fun y => !decide (y.1 = c))) ↔ _
    by_cases e : k.1 = c
    · rw [if_pos e]
      simp [cols, e]
    · rw [if_neg e]
      show x ∈ c :: cols ((k :: r).filter _) ↔ _
      rw [cols_filter, List.mem_cons, List.mem_filter]
      by_cases z : x = c <;> simp [z]
theorem after_cols : ∀ {cs : List Int} {s : List Ky} {x : Int}, x ∈ cols (afterL s cs) ↔ x ∈ cs ∨ x ∈ cols s
  | [], s, x => by simp [afterL]
  | c :: cs, s, x => by
    show x ∈ cols (afterL (click s c) cs) ↔ _
    rw [after_cols (cs := cs), click_cols, List.mem_cons]
    constructor
    · rintro (h | h | h)
      · exact .inl (.inr h)
      · exact .inl (.inl h)
      · exact .inr h
    · rintro ((h | h) | h)
      · exact .inr (.inl h)
      · exact .inl h
      · exact .inr (.inr h)
/-! a click on keys whose last one may be turned, and the rest behind -/
theorem rest_click {ks s : List Ky} {c : Int} : restL (click ks c) s = (restL ks s).filter (fun x => !decide (x.1 = c)) := by
  unfold restL
  rw [List.filter_filter]
  refine List.filter_congr fun k _ => ?_
  rw [Bool.eq_iff_iff]
  simp only [Bool.not_eq_true', decide_eq_false_iff_not, Bool.and_eq_true, click_cols, not_or]
theorem getLast_cons {k : Ky} {r : List Ky} (h : r ≠ []) : (k :: r).getLast? = r.getLast? := by
  cases r with
  | nil => exact absurd rfl h
  | cons x r => rfl
theorem flip_cons {k : Ky} {r : List Ky} (h : r ≠ []) : flipL (k :: r) = k :: flipL r := by
  unfold flipL
  rw [getLast_cons h]
  cases r with
  | nil => exact absurd rfl h
  | cons x r =>
    cases z : (x :: r).getLast? with
    | none => simp at z
    | some y => rfl
theorem flip_snoc (ks : List Ky) (k : Ky) : flipL (ks ++ [k]) = ks ++ [(k.1, -k.2)] := by
  unfold flipL
  rw [List.getLast?_concat, List.dropLast_concat]
theorem last_snoc (ks : List Ky) (k : Ky) : lastC (ks ++ [k]) = k.1 := by
  unfold lastC
  rw [List.getLast?_concat]
  rfl
theorem snoc_of {ks : List Ky} (h : ks ≠ []) : ∃ l k, ks = l ++ [k] := ⟨_, _, (List.dropLast_concat_getLast h).symm⟩
/-- the step of a form -/
def keeps (ks : List Ky) (c : Int) : Bool := decide (ks.length = 1) || !decide (c = lastC ks)
theorem click_fl {ks s : List Ky} {f : Bool} {c : Int} (hk : Vd ks) (ne : ks ≠ []) : click (fl f ks ++ restL ks s) c = fl (f && keeps ks c) (click ks c) ++ restL (click ks c) s := by
  rw [rest_click]
  obtain ⟨l, k, rfl⟩ := snoc_of ne
  have nd := hk.nd
  have nr : ∀ x ∈ restL (l ++ [k]) s, x.1 ∉ cols (l ++ [k]) := fun x hx => by
    have := (List.mem_filter.mp hx).2
    simpa using this
  generalize restL (l ++ [k]) s = R at nr
  have kl : k.1 ∉ cols l := by
    have : (cols l ++ [k.1]).Nodup := by simpa [cols] using nd
    exact fun h => (List.nodup_append.mp this).2.2 _ h _ (List.mem_singleton.mpr rfl) rfl
  have Rc : ∀ x ∈ R, x.1 = c → c ∉ cols (l ++ [k]) := fun x hx e => e ▸ nr x hx
  have Rf : c ∈ cols (l ++ [k]) → R.filter (fun x => !decide (x.1 = c)) = R := fun h => by
    rw [List.filter_eq_self]
    intro x hx
    have : x.1 ≠ c := fun e => Rc x hx e h
    simp [this]
  cases l with
  | nil =>
    have kp : keeps ([] ++ [k]) c = true := rfl
    rw [kp, Bool.and_true]
    have ef : fl f ([] ++ [k]) = [if f = true then (k.1, -k.2) else k] := by
      unfold fl
      rw [flip_snoc]
      cases f <;> rfl
    rw [ef]
    show click ((if f = true then (k.1, -k.2) else k) :: R) c = fl f (click [k] c) ++ _
    have k1 : (if f = true then (k.1, -k.2) else k).1 = k.1 := by cases f <;> rfl
    by_cases e : k.1 = c
    · have Rf := Rf (by simp [cols, e])
      show (if (if f = true then (k.1, -k.2) else k).1 = c then _ else _) = fl f (if k.1 = c then [(c, -k.2)] else _) ++ _
      rw [k1, if_pos e, if_pos e, Rf]
      have : fl f [(c, -k.2)] = [if f = true then (c, k.2) else (c, -k.2)] := by
        unfold fl
        rw [show [(c, -k.2)] = [] ++ [(c, -k.2)] from rfl, flip_snoc]
        cases f <;> simp
      rw [this]
      cases f <;> simp
    · show (if (if f = true then (k.1, -k.2) else k).1 = c then _ else _) = fl f (if k.1 = c then _ else (c, 1) :: [k].filter _) ++ _
      rw [k1, if_neg e, if_neg e, List.filter_cons, k1]
      have d : (!decide (k.1 = c)) = true := by simp [e]
      have f1 : [k].filter (fun x => !decide (x.1 = c)) = [k] := by rw [List.filter_cons, d]; rfl
      rw [f1, if_pos d]
      have : fl f [(c, 1), k] = [(c, 1), if f = true then (k.1, -k.2) else k] := by
        unfold fl
        rw [show [(c, 1), k] = [(c, 1)] ++ [k] from rfl, flip_snoc]
        cases f <;> rfl
      rw [this]
      rfl
  | cons k0 l =>
    have ef : fl f (k0 :: l ++ [k]) = k0 :: l ++ [if f = true then (k.1, -k.2) else k] := by
      unfold fl
      rw [flip_snoc]
      cases f <;> rfl
    rw [ef]
    have k0k : k0.1 ≠ k.1 := fun e => kl (by simp [cols, e])
    by_cases e : k0.1 = c
    · have Rf := Rf (by simp [cols, e])
      have kp : keeps (k0 :: l ++ [k]) c = true := by
        unfold keeps
        rw [last_snoc]
        have : ¬ c = k.1 := fun z => k0k (e.trans z)
        simp [this]
      rw [kp, Bool.and_true]
      show (if k0.1 = c then (c, -k0.2) :: (l ++ [if f = true then (k.1, -k.2) else k] ++ R) else _) = fl f (if k0.1 = c then (c, -k0.2) :: (l ++ [k]) else _) ++ _
      rw [if_pos e, if_pos e, Rf]
      have : fl f ((c, -k0.2) :: (l ++ [k])) = (c, -k0.2) :: (l ++ [if f = true then (k.1, -k.2) else k]) := by
        unfold fl
        rw [show (c, -k0.2) :: (l ++ [k]) = ((c, -k0.2) :: l) ++ [k] from rfl, flip_snoc]
        cases f <;> rfl
      rw [this]
      rfl
    · show (if k0.1 = c then _ else (c, 1) :: (k0 :: l ++ [if f = true then (k.1, -k.2) else k] ++ R).filter _) = fl _ (if k0.1 = c then _ else (c, 1) :: (k0 :: l ++ [k]).filter _) ++ _
      rw [if_neg e, if_neg e, List.filter_append, List.filter_append]
      by_cases z : c = k.1
      · have kp : keeps (k0 :: l ++ [k]) c = false := by
          unfold keeps
          rw [last_snoc]
          simp [z]
        rw [kp, Bool.and_false]
        have f2 : [if f = true then (k.1, -k.2) else k].filter (fun x => !decide (x.1 = c)) = [] := by
          cases f <;> simp [z]
        have f3 : (k0 :: l ++ [k]).filter (fun x => !decide (x.1 = c)) = (k0 :: l).filter (fun x => !decide (x.1 = c)) := by
          rw [List.filter_append]
          simp [z]
        rw [f2, f3, List.append_nil]
        rfl
      · have kp : keeps (k0 :: l ++ [k]) c = true := by
          unfold keeps
          rw [last_snoc]
          simp [z]
        rw [kp, Bool.and_true]
        have zz : ¬ k.1 = c := fun y => z y.symm
        have f2 : [if f = true then (k.1, -k.2) else k].filter (fun x => !decide (x.1 = c)) = [if f = true then (k.1, -k.2) else k] := by
          cases f <;> simp [zz]
        have f3 : (k0 :: l ++ [k]).filter (fun x => !decide (x.1 = c)) = (k0 :: l).filter (fun x => !decide (x.1 = c)) ++ [k] := by
          rw [List.filter_append]
          simp [zz]
        rw [f2, f3]
        have : fl f ((c, 1) :: ((k0 :: l).filter (fun x => !decide (x.1 = c)) ++ [k])) = (c, 1) :: ((k0 :: l).filter (fun x => !decide (x.1 = c)) ++ [if f = true then (k.1, -k.2) else k]) := by
          unfold fl
          rw [show (c, 1) :: ((k0 :: l).filter (fun x => !decide (x.1 = c)) ++ [k]) = ((c, 1) :: (k0 :: l).filter (fun x => !decide (x.1 = c))) ++ [k] from rfl, flip_snoc]
          cases f <;> rfl
        rw [this]
        simp
end K10
set_option Elab.async false
set_option pp.maxSteps 1200
set_option linter.all false
set_option maxRecDepth 100000
set_option maxHeartbeats 4000000
namespace K10
/-! the shortest list of clicks from one sorting to another -/
def hdc (s : List Ky) : Option Int := s.head?.map (·.1)
/-- how often the column of a key is clicked -/
def wt (k : Ky) : Nat := if k.2 = 1 then 1 else 2
def wt1 (s : List Ky) (k : Ky) : Nat := if k.2 = 1 ∨ hdc s = some k.1 then 1 else 2
def canonL (s : List Ky) : List Ky → List Int
  | [] => []
  | [k] => List.replicate (wt1 s k) k.1
  | k :: l :: r => canonL s (l :: r) ++ List.replicate (wt k) k.1
theorem wt_pos (k : Ky) : 1 ≤ wt k := by
  unfold wt
  split <;> omega
theorem wt1_pos (s : List Ky) (k : Ky) : 1 ≤ wt1 s k := by
  unfold wt1
  split <;> omega
theorem wt1_le (s : List Ky) (k : Ky) : wt1 s k ≤ wt k := by
  unfold wt1 wt
  by_cases h : k.2 = 1
  · rw [if_pos (.inl h), if_pos h]
    exact Nat.le_refl _
  · rw [if_neg h]
    split <;> omega
theorem wt_le (k : Ky) : wt k ≤ 2 := by
  unfold wt
  split <;> omega
theorem canon_cons (s : List Ky) (k : Ky) {r : List Ky} (h : r ≠ []) : canonL s (k :: r) = canonL s r ++ List.replicate (wt k) k.1 := by
  cases r with
  | nil => exact absurd rfl h
  | cons l r => rfl
theorem len_cons (s : List Ky) (k : Ky) {r : List Ky} (h : r ≠ []) : (canonL s (k :: r)).length = (canonL s r).length + wt k := by
  rw [canon_cons s k h, List.length_append, List.length_replicate]
theorem len_one (s : List Ky) (k : Ky) : (canonL s [k]).length = wt1 s k := List.length_replicate
theorem canon_pos (s : List Ky) : ∀ {r : List Ky}, r ≠ [] → 1 ≤ (canonL s r).length
  | [], h => absurd rfl h
  | [k], _ => by
    rw [len_one]
    exact wt1_pos s k
  | k :: l :: r, _ => by
    rw [len_cons s k (by simp)]
    have := wt_pos k
    omega
theorem canon_nil {s r : List Ky} (h : canonL s r = []) : r = [] := by
  cases r with
  | nil => rfl
  | cons k r =>
    have := canon_pos s (r := k :: r) (by simp)
    rw [h] at this
    exact absurd this (by decide)
theorem canon_len (s : List Ky) : ∀ r : List Ky, (canonL s r).length ≤ 2 * r.length
  | [] => Nat.le_refl _
  | [k] => by
    rw [len_one]
    have := wt1_le s k
    have := wt_le k
    show wt1 s k ≤ 2
    omega
  | k :: l :: r => by
    rw [len_cons s k (by simp)]
    have := canon_len s (l :: r)
    have := wt_le k
    simp only [List.length_cons] at this ⊢
    simp only [List.length_cons] at *
    omega
/-- the program's own loop -/
def frontL (s : List Ky) (P : List Ky) : List Int := P.reverse.foldl (fun f k => f ++ List.replicate (if k.2 = 1 ∨ (f = [] ∧ hdc s = some k.1) then 1 else 2) k.1) []
theorem front_canon (s : List Ky) : ∀ P : List Ky, frontL s P = canonL s P
  | [] => rfl
  | k :: r => by
    have ih := front_canon s r
    unfold frontL at ih ⊢
    rw [List.reverse_cons, List.foldl_append, ih]
    show canonL s r ++ List.replicate (if k.2 = 1 ∨ (canonL s r = [] ∧ hdc s = some k.1) then 1 else 2) k.1 = _
    cases r with
    | nil =>
      simp [canonL, wt1]
    | cons l r =>
      rw [canon_cons s k (by simp)]
      congr 2
      unfold wt
      have : ¬ (canonL s (l :: r) = []) := fun z => by simpa using canon_nil z
      by_cases h : k.2 = 1
      · rw [if_pos (.inl h), if_pos h]
      · rw [if_neg (fun z => z.elim h fun y => this y.1), if_neg h]
abbrev noC (c : Int) (ks : List Ky) : List Ky := ks.filter fun x => !decide (x.1 = c)
theorem noC_cons_eq {k : Ky} {r : List Ky} : noC k.1 (k :: r) = noC k.1 r := by
  unfold noC
  rw [List.filter_cons, if_neg (by simp)]
theorem noC_cons_ne {k : Ky} {r : List Ky} {c : Int} (h : k.1 ≠ c) : noC c (k :: r) = k :: noC c r := by
  unfold noC
  rw [List.filter_cons, if_pos (by simp [h])]
theorem noC_len (s : List Ky) (c : Int) : ∀ P : List Ky, (cols P).Nodup → (canonL s (noC c P)).length + (if c ∈ cols P then 1 else 0) ≤ (canonL s P).length
  | [], _ => Nat.le_refl _
  | k :: r, nd => by
    have nd' : k.1 ∉ cols r ∧ (cols r).Nodup := List.nodup_cons.mp nd
    have ih := noC_len s c r nd'.2
    by_cases e : k.1 = c
    · subst e
      have hn : noC k.1 r = r := filter_ne nd'.1
      have hk : k.1 ∈ cols (k :: r) := List.mem_cons_self
      rw [noC_cons_eq, hn, if_pos hk]
      cases r with
      | nil =>
        rw [len_one]
        exact wt1_pos s k
      | cons l r =>
        rw [len_cons s k (by simp)]
        have := wt_pos k
        omega
    · rw [noC_cons_ne e]
      have hm : (c ∈ cols (k :: r)) ↔ c ∈ cols r := by
        show c ∈ k.1 :: cols r ↔ _
        rw [List.mem_cons]
        exact ⟨fun z => z.resolve_left fun y => e y.symm, .inr⟩
      by_cases hf : noC c r = []
      · rw [hf, len_one]
        have h1 := wt1_le s k
        cases r with
        | nil =>
          rw [len_one, if_neg (fun z => by have := hm.mp z; cases this)]
          exact Nat.le_refl _
        | cons l r =>
          rw [len_cons s k (by simp)]
          have h2 := canon_pos s (r := l :: r) (by simp)
          split <;> omega
      · have hr : r ≠ [] := fun z => by
          rw [z] at hf
          exact hf rfl
        rw [len_cons s k hf, len_cons s k hr]
        by_cases hc : c ∈ cols r
        · rw [if_pos (hm.mpr hc)]
          rw [if_pos hc] at ih
          omega
        · rw [if_neg (fun z => hc (hm.mp z))]
          rw [if_neg hc] at ih
          omega
theorem take_len (s : List Ky) : ∀ (P : List Ky) (n : Nat), n < P.length → (canonL s (P.take n)).length < (canonL s P).length
  | [], n, h => absurd h (by simp)
  | k :: r, 0, _ => by
    have := canon_pos s (r := k :: r) (by simp)
    exact this
  | k :: r, n + 1, h => by
    have hl : n < r.length := by simpa using h
    have hr : r ≠ [] := fun z => by rw [z] at hl; simp at hl
    have ih := take_len s r n hl
    rw [List.take_succ_cons, len_cons s k hr]
    by_cases z : r.take n = []
    · rw [z, len_one]
      have := wt1_le s k
      have := canon_pos s hr
      omega
    · rw [len_cons s k z]
      omega
theorem restL_cons {c : Int} {b : Int} {P s : List Ky} : restL ((c, b) :: P) s = noC c (restL P s) := by
  unfold restL noC
  rw [List.filter_filter]
  refine List.filter_congr fun x _ => ?_
  show (!decide (x.1 ∈ c :: cols P)) = _
  rw [Bool.eq_iff_iff]
  simp [List.mem_cons]
theorem restL_noC {c : Int} {b : Int} {P s : List Ky} : restL ((c, b) :: noC c P) s = noC c (restL P s) := by
  unfold restL
  have e : cols ((c, b) :: noC c P) = c :: (cols P).filter (fun x => !decide (x = c)) := by
    show c :: cols (noC c P) = _
    rw [cols_filter]
  rw [e]
  unfold noC
  rw [List.filter_filter]
  refine List.filter_congr fun x _ => ?_
  rw [Bool.eq_iff_iff]
  simp only [Bool.not_eq_true', decide_eq_false_iff_not, Bool.and_eq_true, List.mem_cons, List.mem_filter, not_or, not_and, decide_eq_true_eq]
  exact ⟨fun ⟨h1, h2⟩ => ⟨h1, fun z => h2 z h1⟩, fun ⟨h1, h2⟩ => ⟨h1, fun z => absurd z h2⟩⟩
theorem restL_nil (s : List Ky) : restL [] s = s := by
  unfold restL
  rw [List.filter_eq_self]
  intro x _
  simp [cols]
theorem Vd.tail {k : Ky} {r : List Ky} (h : Vd (k :: r)) : Vd r := ⟨(List.nodup_cons.mp h.nd).2, fun x hx => h.sg x (List.mem_cons_of_mem _ hx)⟩
theorem Vd.noC {P : List Ky} (h : Vd P) (c : Int) : Vd ((c, 1) :: noC c P) := by
  refine ⟨?_, fun x hx => ?_⟩
  · show (c :: cols (K10.noC c P)).Nodup
    rw [cols_filter, List.nodup_cons]
    refine ⟨fun z => ?_, h.nd.sublist List.filter_sublist⟩
    have := (List.mem_filter.mp z).2
    simp at this
  · rcases List.mem_cons.mp hx with z | z
    · rw [z]
      exact .inl rfl
    · exact h.sg x (List.mem_filter.mp z).1
/-- what clicks make: clicked columns ahead, and no shorter list does -/
theorem decomp {s : List Ky} (hs : Vd s) : ∀ rs : List Int, ∃ P, afterL s rs.reverse = P ++ restL P s ∧ Vd P ∧ (canonL s P).length ≤ rs.length ∧ ((canonL s P).length = rs.length → rs.reverse = canonL s P) ∧ (P = [] → rs = []) ∧ ∀ c ∈ cols P, c ∈ rs
  | [] => ⟨[], by rw [restL_nil]; rfl, Vd.nil, Nat.le_refl _, fun _ => rfl, fun _ => rfl, fun c h => nomatch h⟩
  | c :: rs => by
    obtain ⟨P, h1, h2, h3, h4, h5, h6⟩ := decomp hs rs
    rw [List.reverse_cons, afterL_snoc, h1, List.length_cons]
    cases P with
    | nil =>
      have e := h5 rfl
      rw [restL_nil, List.nil_append]
      subst e
      cases s with
      | nil =>
        refine ⟨[(c, 1)], rfl, ⟨by simp [cols], fun k hk => by rw [List.mem_singleton.mp hk]; exact .inl rfl⟩, by rw [len_one]; exact Nat.le_refl _, fun _ => by simp [canonL, wt1], (fun z => nomatch z), fun x hx => by simpa [cols] using hx⟩
      | cons k r =>
        by_cases e : k.1 = c
        · have nk : k.1 ∉ cols r := (List.nodup_cons.mp hs.nd).1
          have w : wt1 (k :: r) (c, -k.2) = 1 := by
            unfold wt1
            rw [if_pos (.inr (by show some k.1 = some c; rw [e]))]
          refine ⟨[(c, -k.2)], ?_, ⟨by simp [cols], fun x hx => ?_⟩, by rw [len_one, w]; exact Nat.le_refl _, fun _ => by show [c] = List.replicate (wt1 (k :: r) (c, -k.2)) c; rw [w]; rfl, (fun z => nomatch z), fun x hx => by simpa [cols] using hx⟩
          · show (if k.1 = c then _ else _) = _
            rw [if_pos e, restL_cons, restL_nil, ← e, noC_cons_eq, show noC k.1 r = r from filter_ne nk]
            rfl
          · rw [List.mem_singleton.mp hx]
            rcases hs.sg k List.mem_cons_self with z | z <;> simp [z]
        · have w : wt1 (k :: r) (c, 1) = 1 := by
            unfold wt1
            rw [if_pos (.inl rfl)]
          refine ⟨[(c, 1)], ?_, ⟨by simp [cols], fun x hx => by rw [List.mem_singleton.mp hx]; exact .inl rfl⟩, by rw [len_one, w]; exact Nat.le_refl _, fun _ => by show [c] = List.replicate (wt1 (k :: r) (c, 1)) c; rw [w]; rfl, (fun z => nomatch z), fun x hx => by simpa [cols] using hx⟩
          show (if k.1 = c then _ else _) = _
          rw [if_neg e, restL_cons, restL_nil]
          rfl
    | cons k r =>
      have nd' : k.1 ∉ cols r ∧ (cols r).Nodup := List.nodup_cons.mp h2.nd
      have step : click (k :: r ++ restL (k :: r) s) c = if k.1 = c then (c, -k.2) :: (r ++ restL (k :: r) s) else (c, 1) :: noC c (k :: r ++ restL (k :: r) s) := rfl
      rw [step]
      by_cases e : k.1 = c
      · rw [if_pos e]
        have sg : k.2 = 1 ∨ k.2 = -1 := h2.sg k List.mem_cons_self
        refine ⟨(c, -k.2) :: r, ?_, ⟨?_, fun x hx => ?_⟩, ?_, ?_, (fun z => nomatch z), fun x hx => ?_⟩
        · have : cols ((c, -k.2) :: r) = cols (k :: r) := by show c :: cols r = k.1 :: cols r; rw [e]
          unfold restL
          rw [this]
          rfl
        · show (c :: cols r).Nodup
          rw [← e]
          exact h2.nd
        · rcases List.mem_cons.mp hx with z | z
          · rw [z]
            rcases sg with y | y <;> simp [y]
          · exact h2.sg x (List.mem_cons_of_mem _ z)
        · cases r with
          | nil =>
            rw [len_one] at h3 ⊢
            rcases sg with y | y
            · have : wt1 s (c, -k.2) ≤ 2 := Nat.le_trans (wt1_le _ _) (wt_le _)
              have := wt1_pos s k
              omega
            · have : wt1 s (c, -k.2) = 1 := by
                unfold wt1
                rw [if_pos (.inl (by rw [y]; rfl))]
              omega
          | cons l r =>
            rw [len_cons s _ (by simp)] at h3 ⊢
            have a1 := wt_le (c, -k.2)
            have a2 := wt_pos k
            omega
        · intro el
          cases r with
          | nil =>
            rw [len_one] at h3 h4 el
            by_cases hh : hdc s = some c
            · have w1 : wt1 s (c, -k.2) = 1 := by
                unfold wt1
                rw [if_pos (.inr hh)]
              have := wt1_pos s k
              omega
            · rcases sg with y | y
              · have w1 : wt1 s (c, -k.2) = 2 := by
                  unfold wt1
                  rw [if_neg (by rw [y]; rintro (z | z); exact absurd (show (-1 : Int) = 1 from z) (by decide); exact hh z)]
                have w2 : wt1 s k = 1 := by
                  unfold wt1
                  rw [if_pos (.inl y)]
                have e4 := h4 (by omega)
                rw [e4]
                show List.replicate (wt1 s k) k.1 ++ [c] = List.replicate (wt1 s (c, -k.2)) c
                rw [w1, w2, e]
                rfl
              · have w1 : wt1 s (c, -k.2) = 1 := by
                  unfold wt1
                  rw [if_pos (.inl (by rw [y]; rfl))]
                have := wt1_pos s k
                omega
          | cons l r =>
            rw [len_cons s _ (by simp)] at h3 h4 el
            rcases sg with y | y
            · have w1 : wt (c, -k.2) = 2 := by
                unfold wt
                rw [y]
                rfl
              have w2 : wt k = 1 := by
                unfold wt
                rw [if_pos y]
              have e4 := h4 (by omega)
              rw [e4, canon_cons s k (r := l :: r) (by simp), canon_cons s (c, -k.2) (r := l :: r) (by simp), w1, w2, List.append_assoc, e]
              rfl
            · have w1 : wt (c, -k.2) = 1 := by
                unfold wt
                rw [if_pos (by rw [y]; rfl)]
              have := wt_pos k
              omega
        · have hx : x ∈ c :: cols r := hx
          rcases List.mem_cons.mp hx with z | z
          · rw [z]
            exact List.mem_cons_self
          · exact List.mem_cons_of_mem _ (h6 x (List.mem_cons_of_mem _ z))
      · rw [if_neg e]
        have hne : noC c (k :: r) ≠ [] := by rw [noC_cons_ne e]; simp
        have nl := noC_len s c (k :: r) h2.nd
        have w : wt (c, (1 : Int)) = 1 := by
          unfold wt
          rw [if_pos rfl]
        refine ⟨(c, 1) :: noC c (k :: r), ?_, Vd.noC h2 c, ?_, ?_, (fun z => nomatch z), fun x hx => ?_⟩
        · rw [restL_noC]
          show (c, 1) :: noC c (k :: r ++ restL (k :: r) s) = (c, 1) :: (noC c (k :: r) ++ noC c (restL (k :: r) s))
          unfold noC
          rw [List.filter_append]
        · rw [len_cons s _ hne, w]
          omega
        · intro el
          rw [len_cons s _ hne, w] at el
          have hc : c ∉ cols (k :: r) := fun z => by
            rw [if_pos z] at nl
            omega
          rw [if_neg hc] at nl
          have e4 := h4 (by omega)
          rw [e4, canon_cons s _ hne, w, show noC c (k :: r) = k :: r from filter_ne hc]
          rfl
        · have hx : x ∈ c :: cols (noC c (k :: r)) := hx
          rcases List.mem_cons.mp hx with z | z
          · rw [z]
            exact List.mem_cons_self
          · rw [cols_filter] at z
            exact List.mem_cons_of_mem _ (h6 x (List.mem_filter.mp z).1)
end K10
set_option Elab.async false
set_option pp.maxSteps 1200
set_option linter.all false
set_option maxRecDepth 100000
set_option maxHeartbeats 4000000
namespace K10
def okS (s goal : List Ky) (n : Nat) : Prop := goal.drop n = restL (goal.take n) s
instance (s goal : List Ky) (n : Nat) : Decidable (okS s goal n) := by unfold okS; infer_instance
def wayL (s goal : List Ky) : Option (List Int) := ((List.range (goal.length + 1)).find? fun n => decide (okS s goal n)).map fun n => canonL s (goal.take n)
theorem find_first {p : Nat → Bool} : ∀ {n m : Nat}, (List.range n).find? p = some m → m < n ∧ p m = true ∧ ∀ i, i < m → p i = false
  | 0, m, h => by cases h
  | n + 1, m, h => by
    rw [List.range_succ, List.find?_append] at h
    cases e : (List.range n).find? p with
    | some x =>
      rw [e] at h
      cases h
      obtain ⟨h1, h2, h3⟩ := find_first e
      exact ⟨by omega, h2, h3⟩
    | none =>
      rw [e] at h
      have no := List.find?_eq_none.mp e
      by_cases hp : p n = true
      · rw [Option.none_or, List.find?_cons_of_pos hp] at h
        cases h
        exact ⟨by omega, hp, fun i hi => by simpa using no i (List.mem_range.mpr hi)⟩
      · rw [Option.none_or, List.find?_cons_of_neg hp] at h
        cases h
theorem find_some {p : Nat → Bool} {n m : Nat} (h1 : m < n) (h2 : p m = true) (h3 : ∀ i, i < m → p i = false) : (List.range n).find? p = some m := by
  cases e : (List.range n).find? p with
  | none => exact absurd h2 (List.find?_eq_none.mp e m (List.mem_range.mpr h1))
  | some x =>
    obtain ⟨a, b, c⟩ := find_first e
    rcases Nat.lt_trichotomy x m with z | z | z
    · have := h3 x z
      rw [b] at this
      cases this
    · rw [z]
    · have := c m z
      rw [h2] at this
      cases this
theorem two_clicks {c : Int} {r : List Ky} : click ((c, (1 : Int)) :: r) c = (c, -1) :: r := by
  show (if c = c then (c, -1) :: r else _) = _
  rw [if_pos rfl]
theorem fresh_click {s : List Ky} {c : Int} (h : hdc s ≠ some c) : click s c = (c, 1) :: noC c s := by
  cases s with
  | nil => rfl
  | cons k r =>
    have : k.1 ≠ c := fun e => h (by show some k.1 = some c; rw [e])
    show (if k.1 = c then _ else _) = _
    rw [if_neg this]
theorem runs {s : List Ky} {c b : Int} {w : Nat} (h : hdc s ≠ some c) (hb : b = 1 ∨ b = -1) (hw : w = if b = 1 then 1 else 2) : afterL s (List.replicate w c) = (c, b) :: noC c s := by
  rcases hb with z | z
  · rw [hw, if_pos z, z]
    exact fresh_click h
  · rw [hw, if_neg (by rw [z]; decide), z]
    show click (click s c) c = _
    rw [fresh_click h, two_clicks]
theorem lead {s : List Ky} (hs : Vd s) : ∀ P : List Ky, Vd P → (∀ l k, P = l ++ [k] → ∀ h t, s = h :: t → h.1 = k.1 → k.2 = -h.2) → afterL s (canonL s P) = P ++ restL P s
  | [], _, _ => by rw [restL_nil]; rfl
  | [k], hP, hl => by
    show afterL s (List.replicate (wt1 s k) k.1) = _
    by_cases e : hdc s = some k.1
    · cases s with
      | nil => cases e
      | cons h t =>
        have e1 : h.1 = k.1 := Option.some.inj e
        have w : wt1 (h :: t) k = 1 := by
          unfold wt1
          rw [if_pos (.inr e)]
        have es := hl [] k rfl h t rfl e1
        have nt : h.1 ∉ cols t := (List.nodup_cons.mp hs.nd).1
        rw [w]
        show (if h.1 = k.1 then (k.1, -h.2) :: t else _) = _
        rw [if_pos e1, ← es]
        show k :: t = [k] ++ restL ((k.1, k.2) :: []) (h :: t)
        rw [restL_cons, restL_nil, ← e1, noC_cons_eq, show noC h.1 t = t from filter_ne nt]
        rfl
    · rw [runs (b := k.2) e (hP.sg k List.mem_cons_self)]
      · show (k.1, k.2) :: noC k.1 s = [k] ++ restL ((k.1, k.2) :: []) s
        rw [restL_cons, restL_nil]
        rfl
      · unfold wt1
        by_cases z : k.2 = 1
        · rw [if_pos (.inl z), if_pos z]
        · rw [if_neg (fun y => y.elim z e), if_neg z]
  | k :: l :: r, hP, hl => by
    have ih := lead hs (l :: r) hP.tail fun l' k' e h t => hl (k :: l') k' (by rw [e]; rfl) h t
    have nk : k.1 ∉ cols (l :: r) := (List.nodup_cons.mp hP.nd).1
    rw [canon_cons s k (r := l :: r) (by simp)]
    unfold afterL at ih ⊢
    rw [List.foldl_append, ih]
    have hne : hdc (l :: r ++ restL (l :: r) s) ≠ some k.1 := fun z => by
      have : l.1 = k.1 := Option.some.inj z
      exact nk (by rw [← this]; exact List.mem_cons_self)
    have := runs (s := l :: r ++ restL (l :: r) s) (b := k.2) (w := wt k) hne (hP.sg k List.mem_cons_self) rfl
    unfold afterL at this
    rw [this]
    show (k.1, k.2) :: noC k.1 (l :: r ++ restL (l :: r) s) = k :: (l :: r) ++ restL ((k.1, k.2) :: (l :: r)) s
    rw [restL_cons (c := k.1) (b := k.2) (P := l :: r)]
    unfold noC
    rw [List.filter_append, show List.filter (fun x => !decide (x.1 = k.1)) (l :: r) = l :: r from filter_ne nk]
    rfl
theorem Vd.take {P : List Ky} (h : Vd P) (n : Nat) : Vd (P.take n) := ⟨by
  unfold cols
  rw [List.map_take]
  exact h.nd.sublist (List.take_sublist _ _), fun k hk => h.sg k (List.mem_of_mem_take hk)⟩
theorem way_leads {s goal : List Ky} (hs : Vd s) (hg : Vd goal) {n : Nat} (hn : n ≤ goal.length) (h : okS s goal n) (hm : ∀ m, m < n → ¬ okS s goal m) : afterL s (canonL s (goal.take n)) = goal := by
  have hP := hg.take n
  rw [lead hs _ hP, ← (show goal.drop n = restL (goal.take n) s from h), List.take_append_drop]
  intro l k e hd t es e1
  subst es
  have nd := hP.nd
  rw [e] at nd
  have nl : k.1 ∉ cols l := fun z => by
    unfold cols at nd z
    rw [List.map_append, List.nodup_append] at nd
    exact nd.2.2 _ z _ (List.mem_singleton.mpr rfl) rfl
  have ln : l.length + 1 = n := by
    have := congrArg List.length e
    rw [List.length_take, List.length_append] at this
    simp only [List.length_cons, List.length_nil] at this
    omega
  have sg : k.2 = 1 ∨ k.2 = -1 := hP.sg k (by rw [e]; exact List.mem_append_right _ List.mem_cons_self)
  have sh : hd.2 = 1 ∨ hd.2 = -1 := hs.sg hd List.mem_cons_self
  rcases (show k.2 = -hd.2 ∨ k.2 = hd.2 by omega) with z | z
  · exact z
  · refine absurd ?_ (hm l.length (by omega))
    have ek : hd = k := Prod.ext e1 z.symm
    have tk : goal.take l.length = l := by
      have : (goal.take n).take l.length = l := by rw [e, List.take_left]
      rw [List.take_take, Nat.min_eq_left (by omega)] at this
      exact this
    have dr : goal.drop l.length = k :: goal.drop n := by
      have : goal = l ++ [k] ++ goal.drop n := by rw [← e, List.take_append_drop]
      conv => lhs; rw [this, List.append_assoc]
      rw [List.drop_left]
      rfl
    show goal.drop l.length = restL (goal.take l.length) (hd :: t)
    rw [tk, dr, show goal.drop n = restL (goal.take n) (hd :: t) from h, e]
    have nt : hd.1 ∉ cols t := (List.nodup_cons.mp hs.nd).1
    unfold restL
    rw [List.filter_cons, List.filter_cons]
    have c1 : hd.1 ∈ cols (l ++ [k]) := by
      unfold cols
      rw [List.map_append]
      exact List.mem_append_right _ (List.mem_singleton.mpr e1)
    rw [if_neg (by simp [c1]), if_pos (by rw [e1]; simp [nl]), ek]
    congr 1
    refine List.filter_congr fun x hx => ?_
    have hx1 : x.1 ≠ k.1 := fun y => nt (by rw [e1, ← y]; exact List.mem_map.mpr ⟨x, hx, rfl⟩)
    unfold cols
    rw [List.map_append]
    simp [hx1]
structure IsWay (s goal : List Ky) (p : List Int) : Prop where
  leads : afterL s p = goal
  len : p.length ≤ 2 * goal.length
  least : ∀ cs, afterL s cs = goal → p.length ≤ cs.length ∧ (p.length = cs.length → cs = p)
theorem way_some {s goal : List Ky} (hs : Vd s) (hg : Vd goal) {p : List Int} (h : wayL s goal = some p) : IsWay s goal p := by
  unfold wayL at h
  obtain ⟨n, hn, rfl⟩ := Option.map_eq_some_iff.mp h
  obtain ⟨h1, h2, h3⟩ := find_first hn
  have h2 := of_decide_eq_true h2
  have h3 : ∀ m, m < n → ¬ okS s goal m := fun m hm => of_decide_eq_false (h3 m hm)
  refine ⟨way_leads hs hg (by omega) h2 h3, ?_, fun cs hc => ?_⟩
  · have := canon_len s (goal.take n)
    rw [List.length_take] at this
    omega
  · obtain ⟨P, e1, e2, e3, e4, _⟩ := decomp hs cs.reverse
    rw [List.reverse_reverse] at e1 e4
    rw [List.length_reverse] at e3 e4
    rw [hc] at e1
    have tk : goal.take P.length = P := by rw [e1, List.take_left]
    have ok : okS s goal P.length := by
      show goal.drop P.length = restL (goal.take P.length) s
      rw [tk]
      conv => lhs; rw [e1, List.drop_left]
    have le : n ≤ P.length := Nat.le_of_not_lt fun z => h3 _ z ok
    have en : goal.take n = P.take n := by
      rw [← tk, List.take_take, Nat.min_eq_left le]
    rw [en]
    by_cases z : n = P.length
    · rw [z, List.take_length]
      exact ⟨e3, fun y => e4 y⟩
    · have := take_len s P n (by omega)
      exact ⟨by omega, fun y => by omega⟩
theorem way_none {s goal : List Ky} (h : wayL s goal = none) : ∃ k ∈ s, k.1 ∉ cols goal := by
  unfold wayL at h
  have h := Option.map_eq_none_iff.mp h
  have no := List.find?_eq_none.mp h goal.length (List.mem_range.mpr (by omega))
  have no : ¬ okS s goal goal.length := by simpa using no
  refine Classical.byContradiction fun hc => no ?_
  show goal.drop goal.length = restL (goal.take goal.length) s
  rw [List.drop_length, List.take_length]
  symm
  rw [restL, List.filter_eq_nil_iff]
  intro x hx
  have : x.1 ∈ cols goal := Classical.byContradiction fun y => hc ⟨x, hx, y⟩
  simp [this]
theorem way_cols {s goal : List Ky} {p : List Int} (h : wayL s goal = some p) : ∀ k ∈ s, k.1 ∈ cols goal := by
  unfold wayL at h
  obtain ⟨n, hn, rfl⟩ := Option.map_eq_some_iff.mp h
  have h2 : okS s goal n := of_decide_eq_true (find_first hn).2.1
  intro k hk
  by_cases z : k.1 ∈ cols (goal.take n)
  · obtain ⟨x, hx, e⟩ := List.mem_map.mp z
    exact List.mem_map.mpr ⟨x, List.mem_of_mem_take hx, e⟩
  · have : k ∈ restL (goal.take n) s := List.mem_filter.mpr ⟨hk, by simp [z]⟩
    rw [← (show goal.drop n = _ from h2)] at this
    exact List.mem_map.mpr ⟨k, List.mem_of_mem_drop this, rfl⟩
theorem way_of {s goal : List Ky} (hs : Vd s) {cs : List Int} (h : afterL s cs = goal) : ∃ p, wayL s goal = some p := by
  cases e : wayL s goal with
  | some p => exact ⟨p, rfl⟩
  | none =>
    obtain ⟨k, hk, hn⟩ := way_none e
    exact absurd (by rw [← h]; exact after_cols.mpr (.inr (List.mem_map.mpr ⟨k, hk, rfl⟩))) hn
end K10
set_option Elab.async false
set_option pp.maxSteps 1200
set_option linter.all false
set_option maxRecDepth 100000
set_option maxHeartbeats 4000000
namespace K10
/-! what stays of the first click -/
theorem alone_snoc {c0 : Int} {r : List Int} {c : Int} : leftAlone (c0 :: r ++ [c]) = (leftAlone (c0 :: r) && (decide (∀ x ∈ r, x = c0) || !decide (c = c0))) := by
  have key : ∀ r : List Int, (c0 ∈ (r ++ [c]).dropWhile (fun x => decide (x = c0))) ↔ (c0 ∈ r.dropWhile (fun x => decide (x = c0)) ∨ (¬ (∀ x ∈ r, x = c0) ∧ c = c0)) := fun r => by
    induction r with
    | nil =>
      rw [List.nil_append, List.dropWhile_cons]
      by_cases e : c = c0
      · rw [if_pos (decide_eq_true e)]
        simp
      · rw [if_neg (by simp [e])]
        simp [e, Ne.symm e]
    | cons x r ih =>
      rw [List.cons_append, List.dropWhile_cons, List.dropWhile_cons]
      by_cases e : x = c0
      · rw [if_pos (decide_eq_true e), if_pos (decide_eq_true e), ih]
        simp [e]
      · rw [if_neg (by simp [e]), if_neg (by simp [e])]
        have ex : ¬ c0 = x := fun z => e z.symm
        simp only [List.mem_cons, List.mem_append, List.forall_mem_cons, e, false_and, not_false_iff, true_and, ex, false_or]
        simp [eq_comm]
        constructor
        · rintro (h | h)
          · exact .inl h
          · exact .inr ⟨.inl ex, h⟩
        · rintro (h | ⟨_, h⟩)
          · exact .inl h
          · exact .inr h
  show (!decide (c0 ∈ (c0 :: (r ++ [c])).dropWhile _)) = ((!decide (c0 ∈ (c0 :: r).dropWhile _)) && _)
  rw [List.dropWhile_cons, if_pos (decide_eq_true rfl), List.dropWhile_cons, if_pos (decide_eq_true rfl), Bool.eq_iff_iff]
  simp only [Bool.not_eq_true', decide_eq_false_iff_not, Bool.and_eq_true, Bool.or_eq_true, decide_eq_true_eq, key]
  constructor
  · intro h
    refine ⟨fun z => h (.inl z), ?_⟩
    by_cases a : ∀ x ∈ r, x = c0
    · exact .inl a
    · exact .inr fun z => h (.inr ⟨a, z⟩)
  · rintro ⟨h1, h2⟩ (z | ⟨z1, z2⟩)
    · exact h1 z
    · exact h2.elim z1 (fun y => y z2)
/-- of clicks that begin with c0 -/
structure Frm (c0 : Int) (r : List Int) : Prop where
  one : (afterL [] (c0 :: r)).length = 1 ↔ ∀ x ∈ r, x = c0
  last : leftAlone (c0 :: r) = true → lastC (afterL [] (c0 :: r)) = c0
  hit : ∀ s, Vd s → afterL s (c0 :: r) = fl (leftAlone (c0 :: r) && decide (s.head? = some (c0, 1))) (afterL [] (c0 :: r)) ++ restL (afterL [] (c0 :: r)) s
theorem vk_after (cs : List Int) : Vd (afterL [] cs) := Vd.after Vd.nil
theorem after_ne (c0 : Int) (r : List Int) : afterL [] (c0 :: r) ≠ [] := by
  have : c0 ∈ cols (afterL [] (c0 :: r)) := after_cols.mpr (.inl List.mem_cons_self)
  intro z
  rw [z] at this
  cases this
theorem first_click {s : List Ky} (h : Vd s) (c : Int) : click s c = fl (decide (s.head? = some (c, 1))) [(c, 1)] ++ restL [(c, 1)] s := by
  have e2 : ∀ s : List Ky, restL [(c, 1)] s = s.filter (fun x => !decide (x.1 = c)) := fun s => by
    unfold restL cols
    refine List.filter_congr fun k _ => ?_
    simp
  have f1 : fl true [(c, 1)] = [(c, -1)] := rfl
  have f0 : fl false [(c, 1)] = [(c, 1)] := rfl
  cases s with
  | nil => rfl
  | cons k r =>
    obtain ⟨a, σ⟩ := k
    have nd := h.nd
    have sg := h.sg (a, σ) List.mem_cons_self
    rw [e2]
    show (if a = c then (c, -σ) :: r else (c, 1) :: ((a, σ) :: r).filter _) = _
    by_cases e : a = c
    · subst e
      have na : a ∉ cols r := by
        have : (a :: cols r).Nodup := nd
        exact (List.nodup_cons.mp this).1
      have fr : ((a, σ) :: r).filter (fun x => !decide (x.1 = a)) = r := by
        rw [List.filter_cons]
        simp only [decide_true, Bool.not_true]
        exact filter_ne na
      rw [if_pos rfl, fr]
      rcases sg with z | z
      · have z : σ = 1 := z
        subst z
        have : decide (((a, (1 : Int)) :: r).head? = some (a, 1)) = true := decide_eq_true rfl
        rw [this, f1]
        rfl
      · have z : σ = -1 := z
        subst z
        have : decide (((a, (-1 : Int)) :: r).head? = some (a, 1)) = false := decide_eq_false (by simp)
        rw [this, f0]
        rfl
    · rw [if_neg e]
      have : decide (((a, σ) :: r).head? = some (c, 1)) = false := decide_eq_false (by simp [e])
      rw [this, f0]
      rfl
theorem frm (c0 : Int) (r : List Int) : Frm c0 r := by
  rw [← List.reverse_reverse r]
  generalize r.reverse = l
  induction l with
  | nil =>
    refine ⟨by simp [afterL, click], fun _ => rfl, fun s hs => ?_⟩
    have : leftAlone (c0 :: ([] : List Int).reverse) = true := by simp [leftAlone]
    rw [this, Bool.true_and]
    exact first_click hs c0
  | cons c l ih =>
    rw [List.reverse_cons]
    generalize l.reverse = r at ih ⊢
    obtain ⟨i1, i2, i3⟩ := ih
    have as : ∀ s, afterL s (c0 :: (r ++ [c])) = click (afterL s (c0 :: r)) c := fun s => afterL_snoc s (c0 :: r) c
    have ne := after_ne c0 r
    have vk := vk_after (c0 :: r)
    have la : leftAlone (c0 :: (r ++ [c])) = (leftAlone (c0 :: r) && (decide (∀ x ∈ r, x = c0) || !decide (c = c0))) := alone_snoc
    obtain ⟨ks, hk⟩ : ∃ ks, ks = afterL [] (c0 :: r) := ⟨_, rfl⟩
    have as0 : afterL [] (c0 :: (r ++ [c])) = click ks c := by rw [as, hk]
    rw [← hk] at i1 i2 i3 ne vk
    have c0k : c0 ∈ cols ks := by
      rw [hk]
      exact after_cols.mpr (.inl List.mem_cons_self)
    -- all the same: one key
    have hlen : (click ks c).length = 1 ↔ ks.length = 1 ∧ c = c0 := by
      obtain ⟨k, t, rfl⟩ := List.exists_cons_of_ne_nil ne
      have cl : click (k :: t) c = if k.1 = c then (c, -k.2) :: t else (c, 1) :: (k :: t).filter (fun x => !decide (x.1 = c)) := rfl
      rw [cl]
      by_cases e : k.1 = c
      · rw [if_pos e]
        constructor
        · intro h
          have : t = [] := List.eq_nil_of_length_eq_zero (by simpa using h)
          subst this
          have : c0 = k.1 := by simpa [cols] using c0k
          exact ⟨rfl, by rw [this, e]⟩
        · rintro ⟨h, _⟩
          simpa using h
      · rw [if_neg e]
        have : k ∈ (k :: t).filter (fun x => !decide (x.1 = c)) := List.mem_filter.mpr ⟨List.mem_cons_self, by simp [e]⟩
        have := List.length_pos_of_mem this
        constructor
        · intro h
          have h' : ((k :: t).filter (fun x => !decide (x.1 = c))).length + 1 = 1 := h
          exfalso
          omega
        · rintro ⟨h, hc⟩
          have : t = [] := List.eq_nil_of_length_eq_zero (by simpa using h)
          subst this
          have : c0 = k.1 := by simpa [cols] using c0k
          exact absurd (this ▸ hc.symm) e
    have one' : (click ks c).length = 1 ↔ ∀ x ∈ r ++ [c], x = c0 := by
      rw [hlen, i1]
      simp [or_imp, forall_and]
    have kp : (leftAlone (c0 :: r) && keeps ks c) = leftAlone (c0 :: (r ++ [c])) := by
      rw [la]
      cases z : leftAlone (c0 :: r) with
      | false => rfl
      | true =>
        rw [Bool.true_and, Bool.true_and]
        unfold keeps
        rw [i2 z]
        congr 1
        exact decide_eq_decide.mpr i1
    refine ⟨by rw [as0]; exact one', fun h => ?_, fun s hs => ?_⟩
    · rw [as0]
      rw [la, Bool.and_eq_true] at h
      have l0 := i2 h.1
      obtain ⟨l, k, rfl⟩ := snoc_of ne
      rw [last_snoc] at l0
      cases l with
      | nil =>
        show lastC (if k.1 = c then [(c, -k.2)] else (c, 1) :: [k].filter (fun x => !decide (x.1 = c))) = c0
        by_cases e : k.1 = c
        · rw [if_pos e]
          exact e.symm.trans l0
        · rw [if_neg e]
          have : [k].filter (fun x => !decide (x.1 = c)) = [k] := by simp [e]
          rw [this]
          exact l0
      | cons k0 l =>
        have hl : ¬ (k0 :: l ++ [k]).length = 1 := by simp
        have nall : ¬ ∀ x ∈ r, x = c0 := fun z => hl (i1.mpr z)
        have cne : c ≠ c0 := by
          rcases (Bool.or_eq_true _ _).mp h.2 with z | z
          · exact absurd (of_decide_eq_true z) nall
          · simpa using z
        show lastC (if k0.1 = c then (c, -k0.2) :: (l ++ [k]) else (c, 1) :: (k0 :: l ++ [k]).filter (fun x => !decide (x.1 = c))) = c0
        by_cases e : k0.1 = c
        · rw [if_pos e, show (c, -k0.2) :: (l ++ [k]) = ((c, -k0.2) :: l) ++ [k] from rfl, last_snoc]
          exact l0
        · rw [if_neg e, List.filter_append]
          have : [k].filter (fun x => !decide (x.1 = c)) = [k] := by
            have : ¬ k.1 = c := fun z => cne (z.symm.trans l0)
            simp [this]
          rw [this, show (c, (1 : Int)) :: ((k0 :: l).filter (fun x => !decide (x.1 = c)) ++ [k]) = ((c, (1 : Int)) :: (k0 :: l).filter (fun x => !decide (x.1 = c))) ++ [k] from rfl, last_snoc]
          exact l0
    · rw [as0, as s, i3 s hs, click_fl vk ne]
      congr 2
      rw [← kp]
      cases leftAlone (c0 :: r) <;> cases keeps ks c <;> cases decide (s.head? = some (c0, 1)) <;> rfl
/-- the form makes of every sorting what the clicks make -/
theorem made_after (cs : List Int) {s : List Ky} (hs : Vd s) : madeOf (formL cs) s = afterL s cs := by
  cases cs with
  | nil =>
    show fl (hit ([], false) s) [] ++ restL [] s = s
    unfold restL cols hit fl
    simp
  | cons c0 r =>
    have f := frm c0 r
    rw [f.hit s hs]
    unfold madeOf formL hit
    show fl (leftAlone (c0 :: r) && decide (s.head? = some (lastC (afterL [] (c0 :: r)), 1))) _ ++ _ = _
    cases z : leftAlone (c0 :: r) with
    | false => rfl
    | true => rw [f.last z]
theorem form_nil {cs : List Int} (h : (formL cs).1 = []) : formL cs = ([], false) := by
  cases cs with
  | nil => rfl
  | cons c0 r => exact absurd h (after_ne c0 r)
theorem areKeys_of {ks : List Ky} (h : Vd ks) (h0 : ∀ x ∈ cols ks, 0 ≤ x) : areKeys ks = true := by
  unfold areKeys
  rw [Bool.and_eq_true, decide_eq_true_eq, List.all_eq_true]
  refine ⟨h.nd, fun k hk => ?_⟩
  unfold okK
  rw [Bool.and_eq_true, decide_eq_true_eq, decide_eq_true_eq]
  refine ⟨h0 _ (List.mem_map.mpr ⟨k, hk, rfl⟩), ?_⟩
  rcases h.sg k hk with z | z <;> simp [z]
theorem hasForm_of {cs : List Int} (h0 : ∀ c ∈ cs, 0 ≤ c) : hasForm (formL cs) = true := by
  have ak : areKeys (afterL [] cs) = true := areKeys_of (vk_after cs) fun x hx => by
    rcases after_cols.mp hx with z | z
    · exact h0 x z
    · cases z
  unfold hasForm
  show (areKeys (afterL [] cs) && _) = true
  rw [ak, Bool.true_and, Bool.or_eq_true, decide_eq_true_eq, decide_eq_true_eq]
  cases cs with
  | nil => exact .inl rfl
  | cons c0 r =>
    have ne := after_ne c0 r
    have f := frm c0 r
    by_cases z : (afterL [] (c0 :: r)).length = 1
    · left
      have all := f.one.mp z
      have : leftAlone (c0 :: r) = true := by
        show (!decide (c0 ∈ (c0 :: r).dropWhile _)) = true
        have dw : ∀ l : List Int, (∀ x ∈ l, x = c0) → l.dropWhile (fun c => decide (c = c0)) = [] := fun l => by
          induction l with
          | nil => intro _; rfl
          | cons x l ih =>
            intro h
            rw [List.dropWhile_cons, if_pos (decide_eq_true (h x List.mem_cons_self))]
            exact ih fun y hy => h y (List.mem_cons_of_mem _ hy)
        rw [dw _ (fun x hx => by
          rcases List.mem_cons.mp hx with e | e
          · exact e
          · exact all x e)]
        rfl
      show leftAlone (c0 :: r) = decide (afterL [] (c0 :: r) ≠ [])
      rw [this, decide_eq_true ne]
    · right
      have := List.length_pos_iff.mpr ne
      show (afterL [] (c0 :: r)).length > 1
      omega
/-! the law's own bound -/
def othersL (cs : List Int) : List Int := (List.range cs.length).filterMap fun i => if cs.getD i 0 ≠ cs.getD 0 0 then some ((i : Nat) : Int) else none
def againL (cs : List Int) : List Int := (List.range cs.length).filterMap fun i => if othersL cs ≠ [] ∧ ((i : Nat) : Int) > (othersL cs).headD 0 ∧ cs.getD i 0 = cs.getD 0 0 then some ((i : Nat) : Int) else none
/-! what parts two forms -/
theorem made_diff {ks s : List Ky} (hk : Vd ks) (ne : ks ≠ []) : madeOf (ks, true) s = madeOf (ks, false) s ↔ s.head? ≠ some (lastC ks, 1) := by
  unfold madeOf hit
  show fl (true && decide (s.head? = some (lastC ks, 1))) ks ++ restL ks s = fl (false && _) ks ++ restL ks s ↔ _
  rw [Bool.true_and, Bool.false_and]
  by_cases z : s.head? = some (lastC ks, 1)
  · rw [decide_eq_true z]
    simp only [z, ne_eq, not_true, iff_false]
    intro e
    have e := List.append_cancel_right e
    obtain ⟨l, k, rfl⟩ := snoc_of ne
    have : l ++ [(k.1, -k.2)] = l ++ [k] := by
      have := e
      unfold fl at this
      rw [if_pos rfl, if_neg (by simp), flip_snoc] at this
      exact this
    have := List.append_cancel_left this
    have : -k.2 = k.2 := congrArg (fun x : List Ky => (x.head?.getD (0, 0)).2) this
    rcases hk.sg k (by simp) with y | y <;> omega
  · rw [decide_eq_false z]
    simp [z]
def firstA (f g : Fm) : Option (List Ky) := if f = g then none else if f.1 ≠ g.1 then some [] else some [(lastC f.1, 1)]
/-- all sortings, layer by layer -/
def nextL (w : Nat) (ks : List Ky) : List (List Ky) := ((List.range w).filter fun c => !decide (((c : Nat) : Int) ∈ cols ks)).flatMap fun c => [ks ++ [(((c : Nat) : Int), -1)], ks ++ [(((c : Nat) : Int), 1)]]
def layerL (w : Nat) : Nat → List (List Ky)
  | 0 => [[]]
  | n + 1 => (layerL w n).flatMap (nextL w)
def everyN (w : Nat) (n : Nat) : List (List Ky) := (List.range (n + 1)).flatMap (layerL w)
def everyL (w : Nat) : List (List Ky) := everyN w w
theorem everyN_succ (w n : Nat) : everyN w (n + 1) = everyN w n ++ layerL w (n + 1) := by
  unfold everyN
  rw [List.range_succ, List.flatMap_append]
  simp
theorem layer_vk (w : Nat) : ∀ n, ∀ s ∈ layerL w n, Vd s ∧ ∀ x ∈ cols s, 0 ≤ x ∧ x < w
  | 0, s, h => by
    rw [List.mem_singleton.mp h]
    exact ⟨Vd.nil, fun x hx => by cases hx⟩
  | n + 1, s, h => by
    obtain ⟨ks, hk, hs⟩ := List.mem_flatMap.mp h
    obtain ⟨v, b⟩ := layer_vk w n ks hk
    obtain ⟨c, hc, hs⟩ := List.mem_flatMap.mp hs
    obtain ⟨hc1, hc2⟩ := List.mem_filter.mp hc
    have cw := List.mem_range.mp hc1
    have nc : ((c : Nat) : Int) ∉ cols ks := by simpa using hc2
    have go : ∀ σ : Int, σ = 1 ∨ σ = -1 → Vd (ks ++ [(((c : Nat) : Int), σ)]) ∧ ∀ x ∈ cols (ks ++ [(((c : Nat) : Int), σ)]), 0 ≤ x ∧ x < w := fun σ hσ => by
      have ec : cols (ks ++ [(((c : Nat) : Int), σ)]) = cols ks ++ [((c : Nat) : Int)] := by simp [cols]
      refine ⟨⟨?_, fun k hk => ?_⟩, fun x hx => ?_⟩
      · rw [ec, List.nodup_append]
        exact ⟨v.nd, by simp, fun a ha b hb e => nc (by rw [← List.mem_singleton.mp hb, ← e]; exact ha)⟩
      · rcases List.mem_append.mp hk with z | z
        · exact v.sg k z
        · rw [List.mem_singleton.mp z]; exact hσ
      · rw [ec] at hx
        rcases List.mem_append.mp hx with z | z
        · exact b x z
        · rw [List.mem_singleton.mp z]; omega
    rcases List.mem_cons.mp hs with z | z
    · rw [z]; exact go (-1) (.inr rfl)
    · rw [List.mem_singleton.mp z]; exact go 1 (.inl rfl)
theorem every_vk {w : Nat} {s : List Ky} (h : s ∈ everyL w) : Vd s ∧ ∀ x ∈ cols s, 0 ≤ x ∧ x < w := by
  obtain ⟨n, _, hs⟩ := List.mem_flatMap.mp h
  exact layer_vk w n s hs
theorem every_head {w : Nat} (w1 : 1 ≤ w) : ∃ t, everyL w = [] :: ((List.range w).flatMap (fun c => [[(((c : Nat) : Int), (-1 : Int))], [(((c : Nat) : Int), 1)]])) ++ t := by
  obtain ⟨m, rfl⟩ : ∃ m, w = m + 1 := ⟨w - 1, by omega⟩
  unfold everyL everyN
  have : List.range (m + 1 + 1) = 0 :: 1 :: (List.range m).map (· + 2) := by
    rw [List.range_succ_eq_map, List.range_succ_eq_map]
    simp [Function.comp_def]
  rw [this, List.flatMap_cons, List.flatMap_cons]
  refine ⟨((List.range m).map (· + 2)).flatMap (layerL (m + 1)), ?_⟩
  have l1 : layerL (m + 1) 1 = (List.range (m + 1)).flatMap (fun c => [[(((c : Nat) : Int), (-1 : Int))], [(((c : Nat) : Int), 1)]]) := by
    show [[]].flatMap (nextL (m + 1)) = _
    have ft : (List.range (m + 1)).filter (fun c => !decide (((c : Nat) : Int) ∈ cols [])) = List.range (m + 1) := by
      rw [List.filter_eq_self]
      intro _ _
      rfl
    simp only [List.flatMap_cons, List.flatMap_nil, List.append_nil, nextL, ft, List.nil_append]
  rw [l1]
  rfl
theorem find_flat {α β : Type} (p : β → Bool) (f : α → List β) : ∀ (l : List α) (m : α) (y : β), m ∈ l → (f m).find? p = some y → (∀ x ∈ l, x ≠ m → (f x).find? p = none) → (l.flatMap f).find? p = some y
  | [], _, _, h, _, _ => by cases h
  | a :: l, m, y, h, hm, hn => by
    rw [List.flatMap_cons, List.find?_append]
    by_cases e : a = m
    · rw [e, hm]
      rfl
    · rw [hn a List.mem_cons_self e]
      rcases List.mem_cons.mp h with z | z
      · exact absurd z.symm e
      · exact find_flat p f l m y z hm fun x hx => hn x (List.mem_cons_of_mem _ hx)
def apartP (a b : List Int) (s : List Ky) : Bool := !decide (afterL s a = afterL s b)
/-- the first sorting of which two lists of clicks do not make the same -/
theorem apart_first {w : Nat} (w1 : 1 ≤ w) {a b : List Int} (ha : ∀ c ∈ a, 0 ≤ c ∧ c < w) (hb : ∀ c ∈ b, 0 ≤ c ∧ c < w) : (everyL w).find? (apartP a b) = firstA (formL a) (formL b) := by
  unfold firstA
  by_cases e : formL a = formL b
  · rw [if_pos e, List.find?_eq_none]
    intro s hs
    have v := (every_vk hs).1
    unfold apartP
    rw [← made_after a v, ← made_after b v, e]
    simp
  · rw [if_neg e]
    obtain ⟨t, et⟩ := every_head w1
    rw [et, List.cons_append, List.find?_cons]
    by_cases e1 : (formL a).1 = (formL b).1
    · rw [if_neg (not_not_intro e1)]
      have p0 : apartP a b [] = false := by
        unfold apartP
        rw [decide_eq_true (show afterL [] a = afterL [] b from e1)]
        rfl
      rw [p0]
      have ne : (formL a).1 ≠ [] := fun z => e (by rw [form_nil z, form_nil (e1 ▸ z)])
      have e2 : (formL a).2 ≠ (formL b).2 := fun z => e (Prod.ext e1 z)
      have key : ∀ s, Vd s → apartP a b s = decide (s.head? = some (lastC (formL a).1, 1)) := fun s v => by
        unfold apartP
        rw [← made_after a v, ← made_after b v]
        have md := made_diff (s := s) (show Vd (formL a).1 from vk_after a) ne
        have fa : formL a = ((formL a).1, (formL a).2) := rfl
        have fb : formL b = ((formL a).1, (formL b).2) := by rw [e1]
        cases za : (formL a).2 with
        | true =>
          have zb : (formL b).2 = false := by
            cases y : (formL b).2 with
            | false => rfl
            | true => exact absurd (za.trans y.symm) e2
          rw [fa, fb, za, zb]
          by_cases h : s.head? = some (lastC (formL a).1, 1)
          · rw [decide_eq_true h, decide_eq_false fun y => md.mp y h]
            rfl
          · rw [decide_eq_false h, decide_eq_true (md.mpr h)]
            rfl
        | false =>
          have zb : (formL b).2 = true := by
            cases y : (formL b).2 with
            | true => rfl
            | false => exact absurd (za.trans y.symm) e2
          rw [fa, fb, za, zb]
          by_cases h : s.head? = some (lastC (formL a).1, 1)
          · rw [decide_eq_true h, decide_eq_false fun y => md.mp y.symm h]
            rfl
          · rw [decide_eq_false h, decide_eq_true (md.mpr h).symm]
            rfl
      have lc : lastC (formL a).1 ∈ cols (formL a).1 := by
        obtain ⟨l, k, el⟩ := snoc_of ne
        rw [el, last_snoc]
        simp [cols]
      have lb : 0 ≤ lastC (formL a).1 ∧ lastC (formL a).1 < w := by
        rcases after_cols.mp lc with z | z
        · exact ha _ z
        · cases z
      rw [List.find?_append]
      have vs : ∀ (c σ : Int), σ = 1 ∨ σ = -1 → Vd [(c, σ)] := fun c σ h => ⟨by simp [cols], fun k hk => by rw [List.mem_singleton.mp hk]; exact h⟩
      have := find_flat (apartP a b) (fun c : Nat => [[(((c : Nat) : Int), (-1 : Int))], [(((c : Nat) : Int), 1)]]) (List.range w) (lastC (formL a).1).toNat [(lastC (formL a).1, 1)] (List.mem_range.mpr (by omega)) ?_ ?_
      · rw [this]
        rfl
      · rw [List.find?_cons, key _ (vs _ _ (.inr rfl)), List.find?_cons, key _ (vs _ _ (.inl rfl))]
        have ei : (((lastC (formL a).1).toNat : Nat) : Int) = lastC (formL a).1 := by omega
        rw [ei]
        simp
      · intro x _ hx
        rw [List.find?_cons, key _ (vs _ _ (.inr rfl)), List.find?_cons, key _ (vs _ _ (.inl rfl))]
        have : ¬ ((x : Nat) : Int) = lastC (formL a).1 := fun z => hx (by omega)
        simp [this]
    · rw [if_pos e1]
      have p0 : apartP a b [] = true := by
        unfold apartP
        rw [decide_eq_false (show ¬ afterL [] a = afterL [] b from e1)]
        rfl
      rw [p0]
/-! columns moved -/
def sh (d : Int) (ks : List Ky) : List Ky := ks.map fun k => (k.1 + d, k.2)
theorem click_sh (d : Int) (ks : List Ky) (c : Int) : click (sh d ks) (c + d) = sh d (click ks c) := by
  cases ks with
  | nil => rfl
  | cons k r =>
    show (if k.1 + d = c + d then (c + d, -k.2) :: sh d r else (c + d, 1) :: (sh d (k :: r)).filter _) = sh d (if k.1 = c then _ else _)
    by_cases e : k.1 = c
    · rw [if_pos e, if_pos (by rw [e])]
      rfl
    · rw [if_neg e, if_neg (by omega)]
      show _ = (c + d, 1) :: sh d ((k :: r).filter _)
      congr 1
      unfold sh
      rw [List.filter_map]
      congr 1
      refine List.filter_congr fun x _ => ?_
      show (!decide (x.1 + d = c + d)) = !decide (x.1 = c)
      congr 1
      rw [decide_eq_decide]
      omega
theorem after_sh (d : Int) : ∀ (cs : List Int) (s : List Ky), afterL (sh d s) (cs.map (· + d)) = sh d (afterL s cs)
  | [], _ => rfl
  | c :: cs, s => by
    show afterL (click (sh d s) (c + d)) (cs.map (· + d)) = sh d (afterL (click s c) cs)
    rw [click_sh, after_sh d cs]
theorem alone_sh (d : Int) (cs : List Int) : leftAlone (cs.map (· + d)) = leftAlone cs := by
  cases cs with
  | nil => rfl
  | cons c0 r =>
    show (!decide (c0 + d ∈ ((c0 :: r).map (· + d)).dropWhile _)) = !decide (c0 ∈ (c0 :: r).dropWhile _)
    have : ∀ l : List Int, (l.map (· + d)).dropWhile (fun c => decide (c = c0 + d)) = (l.dropWhile (fun c => decide (c = c0))).map (· + d) := fun l => by
      induction l with
      | nil => rfl
      | cons x l ih =>
        rw [List.map_cons, List.dropWhile_cons, List.dropWhile_cons]
        by_cases e : x = c0
        · rw [if_pos (decide_eq_true e), if_pos (by simp [e]), ih]
        · rw [if_neg (by simp [e]), if_neg (by simp; omega)]
          rfl
    rw [this]
    congr 1
    rw [decide_eq_decide, List.mem_map]
    exact ⟨fun ⟨x, h, e⟩ => (show x = c0 by omega) ▸ h, fun h => ⟨c0, h, rfl⟩⟩
theorem form_sh (d : Int) (cs : List Int) : formL (cs.map (· + d)) = (sh d (formL cs).1, (formL cs).2) := by
  unfold formL
  rw [alone_sh]
  have this : afterL [] (cs.map (· + d)) = sh d (afterL [] cs) := after_sh d cs []
  show (afterL [] (cs.map (· + d)), leftAlone cs) = (sh d (afterL [] cs), leftAlone cs)
  rw [this]
theorem sh_inj {d : Int} {a b : List Ky} (h : sh d a = sh d b) : a = b := by
  unfold sh at h
  refine (List.map_inj_right fun x y e => ?_).mp h
  obtain ⟨x1, x2⟩ := x
  obtain ⟨y1, y2⟩ := y
  simp only [Prod.mk.injEq] at e ⊢
  omega
theorem last_sh {d : Int} {a : List Ky} (h : a ≠ []) : lastC (sh d a) = lastC a + d := by
  obtain ⟨l, k, rfl⟩ := snoc_of h
  rw [last_snoc]
  unfold sh
  rw [List.map_append]
  exact last_snoc _ _
theorem first_sh (d : Int) {a b : List Int} : firstA (formL (a.map (· + d))) (formL (b.map (· + d))) = (firstA (formL a) (formL b)).map (sh d) := by
  rw [form_sh, form_sh]
  unfold firstA
  by_cases e : formL a = formL b
  · rw [if_pos e, if_pos (by rw [e])]
    rfl
  · have ne : ¬ ((sh d (formL a).1, (formL a).2) = (sh d (formL b).1, (formL b).2)) := fun z => e (Prod.ext (sh_inj (Prod.mk.inj z).1) (Prod.mk.inj z).2)
    rw [if_neg e, if_neg ne]
    by_cases e1 : (formL a).1 = (formL b).1
    · rw [if_neg (not_not_intro e1), if_neg (not_not_intro (by rw [e1]))]
      have na : (formL a).1 ≠ [] := fun z => e (by rw [form_nil z, form_nil (e1 ▸ z)])
      show some [(lastC (sh d (formL a).1), 1)] = some [(lastC (formL a).1 + d, 1)]
      rw [last_sh na]
    · rw [if_pos e1, if_pos (fun z => e1 (sh_inj z))]
      rfl
theorem vk_sh {d : Int} {s : List Ky} (h : Vd s) : Vd (sh d s) := by
  refine ⟨?_, fun k hk => ?_⟩
  · have : cols (sh d s) = (cols s).map (· + d) := by simp [cols, sh]
    rw [this, List.nodup_iff_pairwise_ne, List.pairwise_map]
    exact (List.nodup_iff_pairwise_ne.mp h.nd).imp fun h e => h (by omega)
  · obtain ⟨x, hx, rfl⟩ := List.mem_map.mp hk
    exact h.sg x hx
end K10
set_option Elab.async false
set_option pp.maxSteps 1200
set_option linter.all false
set_option maxRecDepth 100000
set_option maxHeartbeats 4000000
namespace K10
open PySem L2 My
def otherI (cs : List Int) : List Int := ((List.range cs.length).map fun i => (0 : Int) + ((i : Nat) : Int)).filter fun x => !decide (cs.getD x.toNat 0 = cs.getD 0 0)
def againI (cs : List Int) : List Int := ((List.range cs.length).map fun i => (0 : Int) + ((i : Nat) : Int)).filter fun x => decide (otherI cs ≠ []) && (decide (x > (otherI cs).headD 0) && decide (cs.getD x.toNat 0 = cs.getD 0 0))
theorem drop_while (P : Int → Bool) : ∀ cs : List Int, ∃ m, m ≤ cs.length ∧ cs.dropWhile P = cs.drop m ∧ (∀ i, i < m → P (cs.getD i 0) = true) ∧ (m < cs.length → P (cs.getD m 0) = false)
  | [] => ⟨0, Nat.le_refl _, rfl, fun i h => absurd h (Nat.not_lt_zero _), fun h => absurd h (Nat.not_lt_zero _)⟩
  | x :: l => by
    obtain ⟨m, h1, h2, h3, h4⟩ := drop_while P l
    cases z : P x with
    | true =>
      refine ⟨m + 1, Nat.succ_le_succ h1, ?_, fun i hi => ?_, fun h => h4 (Nat.lt_of_succ_lt_succ h)⟩
      · rw [List.dropWhile_cons, z]
        exact h2
      · cases i with
        | zero => exact z
        | succ i => exact h3 i (Nat.lt_of_succ_lt_succ hi)
    | false =>
      refine ⟨0, Nat.zero_le _, ?_, fun i h => absurd h (Nat.not_lt_zero _), fun _ => z⟩
      rw [List.dropWhile_cons, z]
      rfl
theorem bound_eq (cs : List Int) : (decide (cs ≠ []) && decide (againI cs = [])) = leftAlone cs := by
  cases cs with
  | nil => rfl
  | cons c0 r =>
    have ne : c0 :: r ≠ [] := by simp
    rw [decide_eq_true ne, Bool.true_and]
    show _ = !decide (c0 ∈ (c0 :: r).dropWhile (fun c => decide (c = c0)))
    obtain ⟨m, h1, h2, h3, h4⟩ := drop_while (fun c => decide (c = c0)) (c0 :: r)
    rw [h2]
    have g0 : (c0 :: r).getD 0 0 = c0 := rfl
    generalize hcs : c0 :: r = cs at *
    by_cases hm : m = cs.length
    · have o : otherI cs = [] := by
        unfold otherI
        rw [List.filter_eq_nil_iff]
        intro x hx
        obtain ⟨i, hi, rfl⟩ := List.mem_map.mp hx
        have hi := List.mem_range.mp hi
        have := h3 i (by omega)
        have e : ((0 : Int) + (i : Int)).toNat = i := by omega
        rw [e, g0]
        have := of_decide_eq_true this
        rw [this]
        simp
      have a : againI cs = [] := by
        unfold againI
        rw [List.filter_eq_nil_iff]
        intro x hx
        rw [o]
        simp
      rw [a, hm, List.drop_length]
      rfl
    · have ml : m < cs.length := by omega
      have h4 := h4 ml
      have fm : (otherI cs).head? = some ((m : Nat) : Int) := by
        unfold otherI
        rw [List.head?_filter, List.find?_map]
        have : (List.range cs.length).find? ((fun x : Int => !decide (cs.getD x.toNat 0 = cs.getD 0 0)) ∘ fun i : Nat => (0 : Int) + (i : Int)) = some m := by
          rw [List.find?_range_eq_some]
          have e : ∀ i : Nat, ((0 : Int) + (i : Int)).toNat = i := fun i => by omega
          refine ⟨?_, List.mem_range.mpr ml, fun j hj => ?_⟩
          · show (!decide (cs.getD ((0 : Int) + (m : Int)).toNat 0 = cs.getD 0 0)) = true
            rw [e, g0, h4]
            rfl
          · show (!(!decide (cs.getD ((0 : Int) + (j : Int)).toNat 0 = cs.getD 0 0))) = true
            rw [e, g0, h3 j hj]
            rfl
        rw [this]
        show some ((0 : Int) + (m : Int)) = _
        rw [Int.zero_add]
      have one : otherI cs ≠ [] := fun z => by rw [z] at fm; cases fm
      have hd : (otherI cs).headD 0 = ((m : Nat) : Int) := by
        rw [List.headD_eq_head?_getD, fm]
        rfl
      by_cases z : c0 ∈ cs.drop m
      · rw [decide_eq_true z]
        have : againI cs ≠ [] := fun y => by
          unfold againI at y
          rw [List.filter_eq_nil_iff] at y
          obtain ⟨i, hi⟩ := List.mem_iff_getElem?.mp z
          rw [List.getElem?_drop] at hi
          have hl := (List.getElem?_eq_some_iff.mp hi).1
          have gi : cs.getD (m + i) 0 = c0 := by rw [List.getD_eq_getElem?_getD, hi]; rfl
          have i0 : i ≠ 0 := fun e => by
            rw [e, Nat.add_zero] at gi
            rw [gi] at h4
            simp at h4
          have := y ((0 : Int) + ((m + i : Nat) : Int)) (List.mem_map.mpr ⟨m + i, List.mem_range.mpr hl, rfl⟩)
          have e : ((0 : Int) + ((m + i : Nat) : Int)).toNat = m + i := by omega
          rw [e, hd, gi, g0, decide_eq_true one, decide_eq_true rfl, decide_eq_true (show (0 : Int) + ((m + i : Nat) : Int) > (m : Int) by omega)] at this
          exact this rfl
        rw [decide_eq_false this]
        rfl
      · rw [decide_eq_false z]
        have : againI cs = [] := by
          unfold againI
          rw [List.filter_eq_nil_iff]
          intro x hx y
          obtain ⟨i, hi, rfl⟩ := List.mem_map.mp hx
          have hi := List.mem_range.mp hi
          rw [Bool.and_eq_true, Bool.and_eq_true] at y
          obtain ⟨_, y1, y2⟩ := y
          have y1 := of_decide_eq_true y1
          have y2 := of_decide_eq_true y2
          have e : ((0 : Int) + (i : Int)).toNat = i := by omega
          rw [e, g0] at y2
          rw [hd] at y1
          refine z (List.mem_iff_getElem?.mpr ⟨i - m, ?_⟩)
          rw [List.getElem?_drop, show m + (i - m) = i by omega, List.getElem?_eq_getElem hi]
          rw [List.getD_eq_getElem?_getD, List.getElem?_eq_getElem hi] at y2
          exact congrArg some y2
        rw [decide_eq_true this]
        rfl
/-! the sortings over whole numbers -/
def free (w : Nat) (ks : List Ky) : List Int := ((List.range w).map fun i => (0 : Int) + ((i : Nat) : Int)).filter fun c => !decide (c ∈ cols ks)
def both (ks : List Ky) (c : Int) : List (List Ky) := [ks ++ [(c, -1)], ks ++ [(c, 1)]]
theorem nextL_free (w : Nat) (ks : List Ky) : nextL w ks = (free w ks).flatMap (both ks) := by
  unfold nextL free both
  rw [List.filter_map, List.flatMap_map]
  have : ((fun c : Int => !decide (c ∈ cols ks)) ∘ fun i : Nat => (0 : Int) + (i : Int)) = fun c : Nat => !decide (((c : Nat) : Int) ∈ cols ks) := by
    funext i
    show (!decide ((0 : Int) + (i : Int) ∈ cols ks)) = _
    rw [Int.zero_add]
  rw [this]
  congr 1
  funext i
  show [_, _] = [_, _]
  rw [Int.zero_add]
theorem free_len (w : Nat) (ks : List Ky) : (free w ks).length ≤ w := by
  unfold free
  have := List.length_filter_le (fun c : Int => !decide (c ∈ cols ks)) ((List.range w).map fun i => (0 : Int) + ((i : Nat) : Int))
  simpa using this
theorem both_len (ks : List Ky) : ∀ l : List Int, (l.flatMap (both ks)).length = 2 * l.length
  | [] => rfl
  | c :: l => by
    rw [List.flatMap_cons, List.length_append, both_len ks l, List.length_cons]
    show 2 + _ = _
    omega
theorem next_len (w : Nat) (ks : List Ky) : (nextL w ks).length ≤ 2 * w := by
  rw [nextL_free, both_len]
  have := free_len w ks
  omega
theorem nexts_len (w : Nat) : ∀ l : List (List Ky), (l.flatMap (nextL w)).length ≤ 2 * w * l.length
  | [] => Nat.le_refl _
  | a :: l => by
    rw [List.flatMap_cons, List.length_append, List.length_cons, Nat.mul_succ]
    have := next_len w a
    have := nexts_len w l
    omega
theorem layer_len (w : Nat) : ∀ n, (layerL w n).length ≤ (2 * w) ^ n
  | 0 => Nat.le_refl _
  | n + 1 => by
    refine Nat.le_trans (nexts_len w (layerL w n)) ?_
    rw [Nat.pow_succ, Nat.mul_comm]
    exact Nat.mul_le_mul_right _ (layer_len w n)
theorem layer_le {w n : Nat} (hw : w ≤ 3) (hn : n ≤ 3) : (layerL w n).length ≤ 216 := by
  refine Nat.le_trans (layer_len w n) (Nat.le_trans (Nat.pow_le_pow_left (show 2 * w ≤ 6 by omega) n) ?_)
  exact Nat.pow_le_pow_right (by decide) hn
theorem every_le {w : Nat} (hw : w ≤ 3) : ∀ n, n ≤ 3 → (everyN w n).length ≤ 216 * (n + 1)
  | 0, _ => by
    show (everyN w 0).length ≤ 216
    unfold everyN
    have : (List.range (0 + 1)).flatMap (layerL w) = layerL w 0 := by simp [List.range_succ]
    rw [this]
    exact layer_le hw (by omega)
  | n + 1, h => by
    rw [everyN_succ, List.length_append]
    have := every_le hw n (by omega)
    have := layer_le (w := w) (n := n + 1) hw h
    omega
theorem layer_size (w : Nat) : ∀ n, ∀ s ∈ layerL w n, s.length = n
  | 0, s, h => by rw [List.mem_singleton.mp h]; rfl
  | n + 1, s, h => by
    obtain ⟨ks, hk, hs⟩ := List.mem_flatMap.mp h
    have ih := layer_size w n ks hk
    obtain ⟨c, _, hs⟩ := List.mem_flatMap.mp hs
    rcases List.mem_cons.mp hs with z | z
    · rw [z, List.length_append, ih]; rfl
    · rw [List.mem_singleton.mp z, List.length_append, ih]; rfl
theorem every_size {w : Nat} {s : List Ky} (h : s ∈ everyL w) : s.length ≤ w := by
  obtain ⟨n, hn, hs⟩ := List.mem_flatMap.mp h
  rw [layer_size w n s hs]
  have := List.mem_range.mp hn
  omega
end K10
set_option Elab.async false
set_option pp.maxSteps 1200
set_option linter.all false
set_option maxRecDepth 100000
set_option maxHeartbeats 4000000
/-! Forms joined, repeated, their shortest clicks: no program in sight. -/
namespace K10
/-- one form and then another one -/
def joinL (f g : Fm) : Fm := if f.1 = [] then g else (madeOf g f.1, f.2 && (!decide (lastC f.1 ∈ cols g.1) || (decide (f.1.length = 1) && (g.2 && decide (lastC g.1 = lastC f.1)))))
theorem dw_all (c0 : Int) : ∀ {l b : List Int}, (∀ x ∈ l, x = c0) → (l ++ b).dropWhile (fun c => decide (c = c0)) = b.dropWhile (fun c => decide (c = c0))
  | [], _, _ => rfl
  | x :: l, b, h => by
    rw [List.cons_append, List.dropWhile_cons, if_pos (decide_eq_true (h x List.mem_cons_self))]
    exact dw_all c0 fun y hy => h y (List.mem_cons_of_mem _ hy)
theorem dw_some (c0 : Int) : ∀ {l b : List Int}, ¬ (∀ x ∈ l, x = c0) → (l ++ b).dropWhile (fun c => decide (c = c0)) = l.dropWhile (fun c => decide (c = c0)) ++ b
  | [], _, h => absurd (fun x hx => by cases hx) h
  | x :: l, b, h => by
    by_cases e : x = c0
    · rw [List.cons_append, List.dropWhile_cons, List.dropWhile_cons, if_pos (decide_eq_true e), if_pos (decide_eq_true e)]
      exact dw_some c0 fun z => h fun y hy => by
        rcases List.mem_cons.mp hy with u | u
        · rw [u, e]
        · exact z y u
    · rw [List.cons_append, List.dropWhile_cons, List.dropWhile_cons, if_neg (by simp [e]), if_neg (by simp [e])]
      rfl
theorem dw_mem (c0 : Int) : ∀ {b : List Int}, c0 ∉ b → c0 ∉ b.dropWhile (fun c => decide (c = c0)) := fun h z => h ((List.dropWhile_sublist _).subset z)
theorem join_form (a b : List Int) : joinL (formL a) (formL b) = formL (a ++ b) := by
  cases a with
  | nil => rfl
  | cons c0 r =>
    have ne := after_ne c0 r
    have f := frm c0 r
    unfold joinL
    rw [if_neg (show ¬ (formL (c0 :: r)).1 = [] from ne), made_after b (show Vd (formL (c0 :: r)).1 from vk_after _)]
    have e1 : afterL (formL (c0 :: r)).1 b = afterL [] (c0 :: r ++ b) := by
      show afterL (afterL [] (c0 :: r)) b = _
      unfold afterL
      rw [List.foldl_append]
    rw [e1]
    show (_, _) = (_, leftAlone (c0 :: r ++ b))
    congr 1
    have la : leftAlone (c0 :: r ++ b) = !decide (c0 ∈ (c0 :: r ++ b).dropWhile (fun c => decide (c = c0))) := rfl
    have lo : leftAlone (c0 :: r) = !decide (c0 ∈ (c0 :: r).dropWhile (fun c => decide (c = c0))) := rfl
    have mb : c0 ∈ cols (formL b).1 ↔ c0 ∈ b := by
      show c0 ∈ cols (afterL [] b) ↔ _
      rw [after_cols]
      simp [cols]
    show (leftAlone (c0 :: r) && (!decide (lastC (afterL [] (c0 :: r)) ∈ cols (formL b).1) || (decide ((afterL [] (c0 :: r)).length = 1) && (leftAlone b && decide (lastC (afterL [] b) = lastC (afterL [] (c0 :: r))))))) = _
    by_cases all : ∀ x ∈ r, x = c0
    · have all' : ∀ x ∈ c0 :: r, x = c0 := fun x hx => by
        rcases List.mem_cons.mp hx with u | u
        · exact u
        · exact all x u
      have l1 : leftAlone (c0 :: r) = true := by
        rw [lo]
        have := dw_all c0 (b := []) all'
        rw [List.append_nil] at this
        rw [this]
        rfl
      rw [l1, Bool.true_and, f.last l1, decide_eq_true (f.one.mpr all), Bool.true_and, la, dw_all c0 all']
      by_cases m : c0 ∈ b
      · rw [decide_eq_true (mb.mpr m)]
        cases b with
        | nil => cases m
        | cons b0 br =>
          have fb := frm b0 br
          by_cases e : b0 = c0
          · subst e
            show (false || (leftAlone (b0 :: br) && decide (lastC (afterL [] (b0 :: br)) = b0))) = leftAlone (b0 :: br)
            cases z : leftAlone (b0 :: br) with
            | false => rfl
            | true =>
              rw [fb.last z, decide_eq_true rfl]
              rfl
          · have d : (b0 :: br).dropWhile (fun c => decide (c = c0)) = b0 :: br := by
              rw [List.dropWhile_cons, if_neg (by simp [e])]
            rw [d, decide_eq_true m]
            show (false || (leftAlone (b0 :: br) && decide (lastC (afterL [] (b0 :: br)) = c0))) = false
            cases z : leftAlone (b0 :: br) with
            | false => rfl
            | true =>
              rw [fb.last z, decide_eq_false e]
              rfl
      · rw [decide_eq_false (fun z => m (mb.mp z)), decide_eq_false (dw_mem c0 m)]
        rfl
    · have all' : ¬ ∀ x ∈ c0 :: r, x = c0 := fun z => all fun x hx => z x (List.mem_cons_of_mem _ hx)
      have one : decide ((afterL [] (c0 :: r)).length = 1) = false := decide_eq_false fun z => all (f.one.mp z)
      rw [one, la, dw_some c0 all', Bool.false_and, Bool.or_false, lo]
      cases z : leftAlone (c0 :: r) with
      | false =>
        rw [lo] at z
        rw [z]
        have z : c0 ∈ (c0 :: r).dropWhile (fun c => decide (c = c0)) := by simpa using z
        rw [Bool.false_and, decide_eq_true (List.mem_append_left _ z)]
        rfl
      | true =>
        rw [f.last z]
        rw [lo] at z
        rw [z, Bool.true_and]
        have z : c0 ∉ (c0 :: r).dropWhile (fun c => decide (c = c0)) := by simpa using z
        congr 1
        rw [decide_eq_decide, mb, List.mem_append]
        exact ⟨fun y => .inr y, fun y => y.elim (fun q => absurd q z) id⟩
/-! a form so many times -/
def repL (f : Fm) (t : Nat) : Fm := if t = 0 then ([], false) else match f.1 with
  | [k] => ([(k.1, if k.2 = 1 ∧ t % 2 = 1 then 1 else -1)], true)
  | _ => (f.1, f.2 && decide (t = 1))
def timesL (cs : List Int) (t : Nat) : List Int := (List.replicate t cs).flatten
theorem times_succ (cs : List Int) (t : Nat) : timesL cs (t + 1) = timesL cs t ++ cs := by
  unfold timesL
  rw [List.replicate_succ', List.flatten_append]
  simp
theorem times_add (cs : List Int) (t s : Nat) : timesL cs (t + s) = timesL cs t ++ timesL cs s := by
  unfold timesL
  rw [← List.replicate_append_replicate, List.flatten_append]
theorem one_alone {cs : List Int} (h : (formL cs).1.length = 1) : (formL cs).2 = true := by
  cases cs with
  | nil => cases h
  | cons c0 r =>
    have all := (frm c0 r).one.mp h
    show leftAlone (c0 :: r) = true
    have all' : ∀ x ∈ c0 :: r, x = c0 := fun x hx => by
      rcases List.mem_cons.mp hx with u | u
      · exact u
      · exact all x u
    have lo : leftAlone (c0 :: r) = !decide (c0 ∈ (c0 :: r).dropWhile (fun c => decide (c = c0))) := rfl
    have := dw_all c0 (b := []) all'
    rw [List.append_nil] at this
    rw [lo, this]
    rfl
theorem rest_self (ks : List Ky) : restL ks ks = [] := by
  unfold restL
  rw [List.filter_eq_nil_iff]
  intro k hk
  have : k.1 ∈ cols ks := List.mem_map.mpr ⟨k, hk, rfl⟩
  simp [this]
theorem hit_self {f : Fm} (hv : Vd f.1) (h : 1 < f.1.length) : hit f f.1 = false := by
  obtain ⟨ks, b⟩ := f
  match ks, h, hv with
  | k0 :: k1 :: r, _, hv =>
    obtain ⟨l, k, e⟩ := snoc_of (show k1 :: r ≠ [] by simp)
    have lc : lastC (k0 :: k1 :: r) = k.1 := by
      rw [e, ← List.cons_append, last_snoc]
    show (b && decide (some k0 = some (lastC (k0 :: k1 :: r), 1))) = false
    rw [lc]
    have nd := hv.nd
    have : k0.1 ≠ k.1 := fun z => by
      have m : k.1 ∈ cols (k1 :: r) := by
        rw [e]
        exact List.mem_map.mpr ⟨k, by simp, rfl⟩
      have nd : (k0.1 :: cols (k1 :: r)).Nodup := nd
      exact (List.nodup_cons.mp nd).1 (z ▸ m)
    have : ¬ some k0 = some (k.1, 1) := fun z => this (by
      injection z with z
      rw [z])
    rw [decide_eq_false this, Bool.and_false]
theorem rep_step (cs : List Int) (t : Nat) : joinL (repL (formL cs) t) (formL cs) = repL (formL cs) (t + 1) := by
  have hv : Vd (formL cs).1 := vk_after cs
  have h1 := one_alone (cs := cs)
  have h0 := form_nil (cs := cs)
  generalize formL cs = f at hv h1 h0
  obtain ⟨ks, b⟩ := f
  match ks, hv, h1, h0 with
  | [], _, _, h0 =>
    have h0 := h0 rfl
    have hb : b = false := by injection h0
    subst hb
    unfold repL joinL
    by_cases z : t = 0 <;> simp [z]
  | [k], hv, h1, _ =>
    have hb : b = true := h1 rfl
    subst hb
    have sg := hv.sg k (by simp)
    obtain ⟨c, s⟩ := k
    have er : ∀ n, repL ([(c, s)], true) (n + 1) = ([(c, if s = 1 ∧ (n + 1) % 2 = 1 then 1 else -1)], true) := fun n => by
      unfold repL
      rw [if_neg (by omega)]
    rw [er]
    cases t with
    | zero =>
      show joinL ([], false) _ = _
      unfold joinL
      rw [if_pos rfl]
      rcases sg with e | e
      · have e : s = 1 := e
        subst e
        rfl
      · have e : s = -1 := e
        subst e
        rfl
    | succ n =>
      rw [er]
      unfold joinL madeOf hit fl restL flipL lastC cols
      rcases sg with e | e
      · have e : s = 1 := e
        subst e
        rcases (show (n + 1) % 2 = 1 ∧ (n + 1 + 1) % 2 = 0 ∨ (n + 1) % 2 = 0 ∧ (n + 1 + 1) % 2 = 1 by omega) with ⟨u, v⟩ | ⟨u, v⟩ <;> rw [u, v] <;> simp
      · have e : s = -1 := e
        subst e
        simp
  | k0 :: k1 :: r, hv, _, _ =>
    have er : ∀ n, repL (k0 :: k1 :: r, b) (n + 1) = (k0 :: k1 :: r, b && decide (n + 1 = 1)) := fun n => by
      unfold repL
      rw [if_neg (by omega)]
    rw [er]
    cases t with
    | zero =>
      show joinL ([], false) _ = _
      unfold joinL
      rw [if_pos rfl]
      simp
    | succ n =>
      rw [er]
      have hs := hit_self (f := (k0 :: k1 :: r, b)) hv (by simp)
      unfold joinL
      rw [if_neg (by simp)]
      have em : madeOf (k0 :: k1 :: r, b) (k0 :: k1 :: r) = k0 :: k1 :: r := by
        unfold madeOf
        rw [hs, rest_self, List.append_nil]
        rfl
      show (madeOf (k0 :: k1 :: r, b) (k0 :: k1 :: r), _) = _
      rw [em]
      obtain ⟨l, k, e⟩ := snoc_of (show k0 :: k1 :: r ≠ [] by simp)
      have m : lastC (k0 :: k1 :: r) ∈ cols (k0 :: k1 :: r) := by
        rw [e, last_snoc]
        exact List.mem_map.mpr ⟨k, by simp, rfl⟩
      show (_, (b && decide (n + 1 = 1)) && (!decide (lastC (k0 :: k1 :: r) ∈ cols (k0 :: k1 :: r)) || (decide ((k0 :: k1 :: r).length = 1) && _))) = _
      rw [decide_eq_true m, decide_eq_false (show ¬ (k0 :: k1 :: r).length = 1 by simp)]
      have : ¬ (n + 1 + 1 = 1) := by omega
      rw [decide_eq_false this]
      simp
theorem rep_form (cs : List Int) : ∀ t, repL (formL cs) t = formL (timesL cs t)
  | 0 => rfl
  | t + 1 => by
    rw [← rep_step, rep_form cs t, join_form, times_succ]
theorem great_form (cs : List Int) (h o : Nat) : repL (formL cs) (2 * h + o) = joinL (joinL (repL (formL cs) h) (repL (formL cs) h)) (repL (formL cs) o) := by
  rw [rep_form, rep_form, rep_form, join_form, join_form, show 2 * h + o = h + h + o by omega, times_add, times_add]
/-! shortest clicks -/
def minI : List Int → Int
  | [] => 0
  | x :: r => r.foldl min x
def runK (k : Ky) : List Int := List.replicate (if k.2 = 1 then 1 else 2) k.1
def runsL (ks : List Ky) : List Int := ks.reverse.flatMap runK
def firstL (f : Fm) : List Int := if f.1 ≠ [] ∧ f.2 = false then [minI (cols f.1.dropLast)] else []
def shortL (f : Fm) : List Int := firstL f ++ runsL f.1
/-! all forms of few columns -/
theorem nodup_len : ∀ (n : Nat) (l : List Int), l.Nodup → (∀ x ∈ l, 0 ≤ x ∧ x < (n : Int)) → l.length ≤ n
  | 0, l, _, h => by
    cases l with
    | nil => exact Nat.le_refl _
    | cons x r =>
      have := h x List.mem_cons_self
      omega
  | n + 1, l, nd, h => by
    have nd' := nd.erase (n : Int)
    have := nodup_len n (l.erase (n : Int)) nd' fun x hx => by
      have m := (nd.mem_erase_iff).mp hx
      have := h x m.2
      have := m.1
      omega
    by_cases z : (n : Int) ∈ l
    · rw [List.length_erase_of_mem z] at this
      omega
    · rw [List.erase_of_not_mem z] at this
      omega
theorem mem_layer (w : Nat) : ∀ (n : Nat) (ks : List Ky), ks.length = n → Vd ks → (∀ x ∈ cols ks, 0 ≤ x ∧ x < (w : Int)) → ks ∈ layerL w n
  | 0, ks, hl, _, _ => by
    rw [List.eq_nil_of_length_eq_zero hl]
    exact List.mem_singleton.mpr rfl
  | n + 1, ks, hl, hv, hc => by
    obtain ⟨l, k, rfl⟩ := snoc_of (show ks ≠ [] by intro z; rw [z] at hl; cases hl)
    have nd : (cols l ++ [k.1]).Nodup := by
      have := hv.nd
      simpa [cols] using this
    have hn := List.nodup_append.mp nd
    have cl : ∀ x ∈ cols l, x ∈ cols (l ++ [k]) := fun x hx => by
      unfold cols at *
      rw [List.map_append]
      exact List.mem_append_left _ hx
    have ml := mem_layer w n l (by simpa using hl) ⟨hn.1, fun x hx => hv.sg x (List.mem_append_left _ hx)⟩ fun x hx => hc x (cl x hx)
    have kc := hc k.1 (List.mem_map.mpr ⟨k, by simp, rfl⟩)
    have kn : k.1 ∉ cols l := fun z => hn.2.2 _ z _ (List.mem_singleton.mpr rfl) rfl
    show l ++ [k] ∈ (layerL w n).flatMap (nextL w)
    refine List.mem_flatMap.mpr ⟨l, ml, ?_⟩
    unfold nextL
    refine List.mem_flatMap.mpr ⟨k.1.toNat, List.mem_filter.mpr ⟨List.mem_range.mpr (by omega), ?_⟩, ?_⟩
    · have : ((k.1.toNat : Nat) : Int) = k.1 := by omega
      rw [this]
      simp [kn]
    · have e : ((k.1.toNat : Nat) : Int) = k.1 := by omega
      rw [e]
      obtain ⟨c, s⟩ := k
      rcases hv.sg (c, s) (by simp) with z | z
      · have z : s = 1 := z
        subst z
        simp
      · have z : s = -1 := z
        subst z
        simp
theorem mem_every {w : Nat} {ks : List Ky} (hv : Vd ks) (hc : ∀ x ∈ cols ks, 0 ≤ x ∧ x < (w : Int)) : ks ∈ everyL w := by
  have hl : ks.length ≤ w := by
    have := nodup_len w (cols ks) hv.nd hc
    simpa [cols] using this
  unfold everyL everyN
  exact List.mem_flatMap.mpr ⟨ks.length, List.mem_range.mpr (by omega), mem_layer w _ ks rfl hv hc⟩
def formsL (w : Nat) : List Fm := (everyL w).flatMap fun ks => [(ks, false), (ks, true)].filter fun f => hasForm f
theorem mem_forms {w : Nat} {cs : List Int} (h : ∀ c ∈ cs, 0 ≤ c ∧ c < (w : Int)) : formL cs ∈ formsL w := by
  have hf := hasForm_of fun c hc => (h c hc).1
  unfold formsL
  refine List.mem_flatMap.mpr ⟨(formL cs).1, mem_every (vk_after cs) fun x hx => ?_, List.mem_filter.mpr ⟨?_, hf⟩⟩
  · rcases after_cols.mp hx with z | z
    · exact h x z
    · cases z
  · have : formL cs = ((formL cs).1, (formL cs).2) := rfl
    rw [this]
    cases (formL cs).2 <;> simp
end K10
set_option Elab.async false
set_option pp.maxSteps 1200
set_option linter.all false
set_option maxRecDepth 100000
set_option maxHeartbeats 4000000
/-! The finite checks: forms of up to three columns. -/
namespace K10
open PySem My
/-! shortest clicks -/
theorem short_fin : ∀ f ∈ formsL 3, formL (shortL f) = f := by decide +kernel
theorem short_fin2 : ∀ f ∈ formsL 3, ∀ c ∈ [(0 : Int), 1, 2], (shortL (joinL f (formL [c]))).length ≤ (shortL f).length + 1 := by decide +kernel
theorem short_form {cs : List Int} (h : ∀ c ∈ cs, 0 ≤ c ∧ c < (3 : Int)) : formL (shortL (formL cs)) = formL cs := short_fin _ (mem_forms (w := 3) h)
theorem short_len : ∀ (n : Nat) (cs : List Int), cs.length = n → (∀ c ∈ cs, 0 ≤ c ∧ c < (3 : Int)) → (shortL (formL cs)).length ≤ cs.length
  | 0, cs, hl, _ => by
    rw [List.eq_nil_of_length_eq_zero hl]
    exact Nat.le_refl _
  | n + 1, cs, hl, h => by
    have ne : cs ≠ [] := by intro z; rw [z] at hl; cases hl
    have e := (List.dropLast_concat_getLast ne).symm
    generalize cs.dropLast = l at e
    generalize cs.getLast ne = c at e
    subst e
    have hc := h c (by simp)
    have ih := short_len n l (by simpa using hl) fun x hx => h x (List.mem_append_left _ hx)
    have := short_fin2 (formL l) (mem_forms (w := 3) fun x hx => h x (List.mem_append_left _ hx)) c (by
      rcases (show c = 0 ∨ c = 1 ∨ c = 2 by omega) with z | z | z <;> simp [z])
    rw [join_form] at this
    rw [List.length_append]
    show _ ≤ l.length + 1
    omega
/-! the law's own lists of clicks -/
def nextC (w : Nat) (cs : List Int) : List (List Int) := (List.range w).map fun c => cs ++ [((c : Nat) : Int)]
def listsL (w : Nat) : Nat → List (List Int)
  | 0 => [[]]
  | n + 1 => (listsL w n).flatMap (nextC w)
def allLists (w n : Nat) : List (List Int) := (List.range n).flatMap (listsL w)
def firstF (w : Nat) (f : Fm) : Option (List Int) := (allLists w 7).find? fun cs => decide (formL cs = f)
theorem first_fin1 : ∀ f ∈ formsL 1, firstF 1 f = some (shortL f) := by decide +kernel
theorem first_fin2 : ∀ f ∈ formsL 2, firstF 2 f = some (shortL f) := by decide +kernel
theorem first_form {w : Nat} (w1 : 1 ≤ w) (w2 : w ≤ 2) {cs : List Int} (h : ∀ c ∈ cs, 0 ≤ c ∧ c < (w : Int)) : firstF w (formL cs) = some (shortL (formL cs)) := by
  rcases (show w = 1 ∨ w = 2 by omega) with z | z
  · subst z
    exact first_fin1 _ (mem_forms h)
  · subst z
    exact first_fin2 _ (mem_forms h)
theorem lists_mem (w : Nat) : ∀ n, ∀ cs ∈ listsL w n, (∀ c ∈ cs, 0 ≤ c ∧ c < (w : Int)) ∧ cs.length = n
  | 0, cs, h => by
    rw [List.mem_singleton.mp h]
    exact ⟨fun c hc => (by cases hc), rfl⟩
  | n + 1, cs, h => by
    obtain ⟨l, hl, h⟩ := List.mem_flatMap.mp h
    obtain ⟨c, hc, rfl⟩ := List.mem_map.mp h
    have hc := List.mem_range.mp hc
    have := lists_mem w n l hl
    refine ⟨fun x hx => ?_, by rw [List.length_append, this.2]; rfl⟩
    rcases List.mem_append.mp hx with z | z
    · exact this.1 x z
    · rw [List.mem_singleton.mp z]
      omega
theorem lists_len {w : Nat} (hw : w ≤ 2) : ∀ n, (listsL w n).length ≤ 2 ^ n
  | 0 => Nat.le_refl _
  | n + 1 => by
    have ih := lists_len hw n
    have : ∀ L : List (List Int), (L.flatMap (nextC w)).length = w * L.length := fun L => by
      induction L with
      | nil => rfl
      | cons x r ih =>
        rw [List.flatMap_cons, List.length_append, ih]
        have : (nextC w x).length = w := by simp [nextC]
        rw [this, List.length_cons, Nat.mul_succ]
        omega
    show ((listsL w n).flatMap (nextC w)).length ≤ _
    rw [this, Nat.pow_succ, Nat.mul_comm]
    exact Nat.mul_le_mul ih hw
/-! numbers of forms and of what they make -/
def choicesI (w : Int) (m : Nat) : Int := (List.range m).foldl (fun a t => a * 2 * (w - ((t : Nat) : Int))) 1
def formsTerm (w : Int) (m : Nat) : Int := choicesI w m * (if m > 1 then 2 else 1)
def numForms (w : Nat) : Int := ((List.range (w + 1)).map (formsTerm w)).sum
def numSorts (w : Nat) : Int := ((List.range (w + 1)).map fun m => choicesI w m).sum
def numMade (w : Nat) (f : Fm) : Int := numSorts (w - f.1.length) * (if f.2 = true then 2 else 1)
def dueForms (w : Nat) : Int := ((everyL w).map fun ks => 1 + (if ks.length > 1 then (1 : Int) else 0)).sum
theorem forms_fin : numForms 1 = dueForms 1 ∧ numForms 2 = dueForms 2 ∧ numForms 3 = dueForms 3 := by decide +kernel
theorem forms_due {w : Nat} (w1 : 1 ≤ w) (w3 : w ≤ 3) : numForms w = dueForms w := by
  rcases (show w = 1 ∨ w = 2 ∨ w = 3 by omega) with z | z | z
  · rw [z]; exact forms_fin.1
  · rw [z]; exact forms_fin.2.1
  · rw [z]; exact forms_fin.2.2
theorem forms_45 : numForms 4 = 1257 ∧ numForms 5 = 12651 := by decide +kernel
theorem sorts_fin : ∀ n : Nat, n ≤ 5 → numSorts n = [1, 3, 13, 79, 633, 6331].getD n 0 := by decide +kernel
/-- once each, in the sequence in which they come first -/
def dedStep {α : Type} [DecidableEq α] (acc : List α) (x : α) : List α := if x ∈ acc then acc else acc ++ [x]
def dedL {α : Type} [DecidableEq α] (xs : List α) : List α := xs.foldl dedStep []
def madeNum (w : Nat) (f : Fm) : Nat := (dedL ((everyL w).map (madeOf f))).length
theorem made_fin1 : ∀ f ∈ formsL 1, ((madeNum 1 f : Nat) : Int) = numMade 1 f := by decide +kernel
theorem made_fin2 : ∀ f ∈ formsL 2, ((madeNum 2 f : Nat) : Int) = numMade 2 f := by decide +kernel
theorem made_fin3 : ∀ f ∈ formsL 3, ((madeNum 3 f : Nat) : Int) = numMade 3 f := by decide +kernel
theorem made_num {w : Nat} (w1 : 1 ≤ w) (w3 : w ≤ 3) {cs : List Int} (h : ∀ c ∈ cs, 0 ≤ c ∧ c < (w : Int)) : ((madeNum w (formL cs) : Nat) : Int) = numMade w (formL cs) := by
  rcases (show w = 1 ∨ w = 2 ∨ w = 3 by omega) with z | z | z
  · subst z; exact made_fin1 _ (mem_forms h)
  · subst z; exact made_fin2 _ (mem_forms h)
  · subst z; exact made_fin3 _ (mem_forms h)
/-! forms between two sortings -/
def keyF (f : Fm) : Int × List Int := (((shortL f).length : Int), shortL f)
def dueStep (s g : List Ky) (acc : List Fm) (cs : List Int) : List Fm := if formL cs ∈ acc ∨ ¬ madeOf (formL cs) s = g then acc else acc ++ [formL cs]
def dueF (w : Nat) (s g : List Ky) : List Fm := (allLists w 6).foldl (dueStep s g) []
def foundF (w : Nat) (s g : List Ky) : List Fm := (formsL w).filter fun f => decide (madeOf f s = g)
/-- the due ones are the found ones, ordered by their keys -/
def okB (w : Nat) (s g : List Ky) : Bool := decide ((dueF w s g).Pairwise fun a b => (keyF a).1 < (keyF b).1 ∨ ((keyF a).1 = (keyF b).1 ∧ (keyF a).2 ≤ (keyF b).2)) && decide ((dueF w s g).Perm (foundF w s g)) && (dueF w s g).all fun f => decide (formL (shortL f) = f)
theorem due_fin1 : ∀ s ∈ everyL 1, ∀ g ∈ everyL 1, okB 1 s g = true := by decide +kernel
theorem due_fin2 : ∀ s ∈ everyL 2, ∀ g ∈ everyL 2, okB 2 s g = true := by decide +kernel
theorem due_ok {w : Nat} (w1 : 1 ≤ w) (w2 : w ≤ 2) {s g : List Ky} (hs : s ∈ everyL w) (hg : g ∈ everyL w) : okB w s g = true := by
  rcases (show w = 1 ∨ w = 2 by omega) with z | z
  · subst z; exact due_fin1 s hs g hg
  · subst z; exact due_fin2 s hs g hg
end K10
set_option Elab.async false
set_option pp.maxSteps 1200
set_option linter.all false
set_option maxRecDepth 100000
set_option maxHeartbeats 4000000
namespace K10
open PySem L2 My
theorem at0 {α : Type} {a : α} {l : List α} : atI (a :: l) 0 = some a := atI_nat (j := 0) rfl
theorem at1 {α : Type} {a b : α} {l : List α} : atI (a :: b :: l) 1 = some b := atI_nat (j := 1) rfl
theorem mapI_get {ts : List Int} {i : Nat} {x : V} (h : (ts.map V.int)[i]? = some x) : ∃ t, ts[i]? = some t ∧ x = V.int t := mapI_at h
theorem nef {a b : V} (h : a = b) : (!decide (a = b)) = false := by
  rw [decide_eq_true h]
  rfl
theorem same {α : Type} [DecidableEq α] {a : α} : (!decide (a = a)) = false := by
  rw [decide_eq_true rfl]
  rfl
theorem decBl (a b : Bool) : decide (V.bl a = V.bl b) = decide (a = b) := by
  rw [decide_eq_decide]
  exact ⟨fun z => by injection z, fun z => by rw [z]⟩
theorem decInt (a b : Int) : decide (V.int a = V.int b) = decide (a = b) := by
  rw [decide_eq_decide]
  exact ⟨fun z => by injection z, fun z => by rw [z]⟩
theorem inV_int (x : Int) (rows : List Int) : inV (V.int x) (rows.map V.int) = decide (x ∈ rows) := by
  unfold inV
  rw [List.any_map, Bool.eq_iff_iff, List.any_eq_true]
  constructor
  · rintro ⟨n, hn, e⟩
    have : n = x := by
      have e : (n == x) = true := e
      simpa using e
    subst this
    exact decide_eq_true hn
  · intro h
    exact ⟨x, of_decide_eq_true h, by show (x == x) = true; simp⟩
theorem flatI (rows : List Int) : (rows.map V.int).all flatV = true := by
  rw [List.all_map, List.all_eq_true]
  intro _ _
  rfl
/-! ### keys in the heap -/
def KyR (K : PySem.W.Frag) (H : Hp) (v : V) (k : Ky) : Prop := ∃ q, v = .ref q ∧ SqT K H q [.int k.1, .int k.2]
abbrev KsAt (K : PySem.W.Frag) (H : Hp) (us : List V) (ks : List Ky) : Prop := AllR (KyR K H) us ks
theorem KyR.ex {K : PySem.W.Frag} {H H' : Hp} {v : V} {k : Ky} (h : KyR K H v k) (e : Ex H H') : KyR K H' v k := let ⟨q, a, b⟩ := h; ⟨q, a, Evl.ex_t e b⟩
theorem KsAt.ex {K : PySem.W.Frag} {H H' : Hp} {us : List V} {ks : List Ky} (h : KsAt K H us ks) (e : Ex H H') : KsAt K H' us ks := h.mono fun _ _ r => r.ex e
theorem sqT_exj {K : PySem.W.Frag} {H H' : Hp} {j q : Addr} {xs ys : List V} (e : Exj j H H') (hj : H j = some (.lst ys)) (h : SqT K H q xs) : SqT K H' q xs := by
  rcases h with (h | ⟨o, h⟩) | h
  · exact .inl (.inl (e _ _ (fun z => by rw [z, hj] at h; cases h) h))
  · exact .inl (.inr ⟨o, e _ _ (fun z => by rw [z, hj] at h; cases h) h⟩)
  · exact .inr h
theorem KsAt.exj {K : PySem.W.Frag} {H H' : Hp} {j : Addr} {us ys : List V} {ks : List Ky} (h : KsAt K H us ks) (e : Exj j H H') (hj : H j = some (.lst ys)) : KsAt K H' us ks := h.mono fun _ _ ⟨q, a, b⟩ => ⟨q, a, sqT_exj e hj b⟩
/-- a list of keys at p -/
def LsK (K : PySem.W.Frag) (H : Hp) (p : Addr) (ks : List Ky) : Prop := ∃ us, H p = some (.lst us) ∧ KsAt K H us ks
theorem LsK.ex {K : PySem.W.Frag} {H H' : Hp} {p : Addr} {ks : List Ky} (h : LsK K H p ks) (e : Ex H H') : LsK K H' p ks := let ⟨us, a, b⟩ := h; ⟨us, e _ _ a, b.ex e⟩
theorem LsK.exj {K : PySem.W.Frag} {H H' : Hp} {j p : Addr} {ys : List V} {ks : List Ky} (h : LsK K H p ks) (e : Exj j H H') (n : p ≠ j) (hj : H j = some (.lst ys)) : LsK K H' p ks := let ⟨us, a, b⟩ := h; ⟨us, e _ _ n a, b.exj e hj⟩
abbrev eK : Ky → PyData := eP PyData.int PyData.int
theorem goodK : Good eK 1 := goodP goodI goodI
theorem KyR.dp {K : PySem.W.Frag} {H : Hp} {v : V} {k : Ky} (h : KyR K H v k) : Dp K H v (eK k) := by
  obtain ⟨q, rfl, b⟩ := h
  exact .tup b (.cons (.int _) (.cons (.int _) .nil))
theorem LsK.dp {K : PySem.W.Frag} {H : Hp} {p : Addr} {ks : List Ky} (h : LsK K H p ks) : Dp K H (.ref p) (eL eK ks) := let ⟨us, a, b⟩ := h; .lst (sqI a) (b.dp fun _ _ r => r.dp)
theorem nilD {K : PySem.W.Frag} {H : Hp} {p : Addr} (h : H p = some (.lst [])) : Dp K H (.ref p) (eL eK []) := .lst (sqI h) .nil
/-- a form -/
def FmR (K : PySem.W.Frag) (H : Hp) (v : V) (f : Fm) : Prop := ∃ p q, v = .ref p ∧ H p = some (.tup [.ref q, .bl f.2]) ∧ LsK K H q f.1
theorem FmR.ex {K : PySem.W.Frag} {H H' : Hp} {v : V} {f : Fm} (h : FmR K H v f) (e : Ex H H') : FmR K H' v f := let ⟨p, q, a, b, c⟩ := h; ⟨p, q, a, e _ _ b, c.ex e⟩
abbrev eF : Fm → PyData := eP (eL eK) PyData.bool
theorem goodUp {α : Type} [DecidableEq α] {e : α → PyData} {n m : Nat} (g : Good e n) (h : n ≤ m) : Good e m := ⟨g.lay, fun x => Nat.le_trans (g.dep x) h, g.eqv⟩
theorem goodF : Good eF 3 := goodP (goodL goodK) (goodUp goodB (by decide))
theorem FmR.dp {K : PySem.W.Frag} {H : Hp} {v : V} {f : Fm} (h : FmR K H v f) : Dp K H v (eF f) := by
  obtain ⟨p, q, rfl, b, c⟩ := h
  exact .tup (sqT b) (.cons c.dp (.cons (.bl _) .nil))
/-- read only -/
def LsQ (K : PySem.W.Frag) (H : Hp) (p : Addr) (ks : List Ky) : Prop := ∃ us, SqL K H p us ∧ KsAt K H us ks
theorem LsK.q {K : PySem.W.Frag} {H : Hp} {p : Addr} {ks : List Ky} (h : LsK K H p ks) : LsQ K H p ks := let ⟨us, a, b⟩ := h; ⟨us, sqI a, b⟩
theorem LsQ.ex {K : PySem.W.Frag} {H H' : Hp} {p : Addr} {ks : List Ky} (h : LsQ K H p ks) (e : Ex H H') : LsQ K H' p ks := let ⟨us, a, b⟩ := h; ⟨us, Evl.ex_l e a, b.ex e⟩
theorem LsQ.dp {K : PySem.W.Frag} {H : Hp} {p : Addr} {ks : List Ky} (h : LsQ K H p ks) : Dp K H (.ref p) (eL eK ks) := let ⟨us, a, b⟩ := h; .lst a (b.dp fun _ _ r => r.dp)
def FmQ (K : PySem.W.Frag) (H : Hp) (v : V) (f : Fm) : Prop := ∃ p q, v = .ref p ∧ SqT K H p [.ref q, .bl f.2] ∧ LsQ K H q f.1
theorem FmR.q {K : PySem.W.Frag} {H : Hp} {v : V} {f : Fm} (h : FmR K H v f) : FmQ K H v f := let ⟨p, q, a, b, c⟩ := h; ⟨p, q, a, sqT b, c.q⟩
theorem FmQ.ex {K : PySem.W.Frag} {H H' : Hp} {v : V} {f : Fm} (h : FmQ K H v f) (e : Ex H H') : FmQ K H' v f := let ⟨p, q, a, b, c⟩ := h; ⟨p, q, a, Evl.ex_t e b, c.ex e⟩
theorem dp_key {K : PySem.W.Frag} {H : Hp} {v : V} {k : Ky} (h : Dp K H v (eK k)) : KyR K H v k := by
  cases h with
  | tup ht ha =>
    cases ha with
    | cons h1 a1 =>
      cases a1 with
      | cons h2 a2 =>
        cases a2
        cases h1
        cases h2
        exact ⟨_, rfl, ht⟩
theorem dp_keys {K : PySem.W.Frag} {H : Hp} : ∀ {us : List V} {ks : List Ky}, DpAll K H us (ks.map eK) → KsAt K H us ks
  | _, [], h => by
    cases h
    exact AllR.nil
  | _, k :: ks, h => by
    cases h with
    | cons h1 a1 =>
      have := (AllR.one (R := KyR K H) (dp_key h1)).append (dp_keys a1)
      exact this
theorem dp_lsq {K : PySem.W.Frag} {H : Hp} {v : V} {ks : List Ky} (h : Dp K H v (eL eK ks)) : ∃ p, v = .ref p ∧ LsQ K H p ks := by
  cases h with
  | lst hl ha => exact ⟨_, rfl, _, hl, dp_keys ha⟩
theorem dp_fm {K : PySem.W.Frag} {H : Hp} {v : V} {f : Fm} (h : Dp K H v (eF f)) : FmQ K H v f := by
  cases h with
  | tup ht ha =>
    cases ha with
    | cons h1 a1 =>
      cases a1 with
      | cons h2 a2 =>
        cases a2
        cases h2
        obtain ⟨p, rfl, hp⟩ := dp_lsq h1
        exact ⟨_, p, rfl, ht, hp⟩
theorem optHead {ks : List Ky} (h : ks ≠ []) : ∃ k r, ks = k :: r := List.exists_cons_of_ne_nil h
/-! ### the promises -/
def sp_are_keys (K : PySem.W.Frag) : Sp := fun vs H Q _ => ∃ (p : Addr) (ks : List Ky), vs = [.ref p] ∧ LsQ K H p ks ∧ ks.length ≤ 500 ∧ Evl.RetV (.bl (areKeys ks)) H Q
def sp_need_keys (K : PySem.W.Frag) : Sp := fun vs H Q _ => ∃ (p : Addr) (ks : List Ky), vs = [.ref p] ∧ LsQ K H p ks ∧ ks.length ≤ 500 ∧ areKeys ks = true ∧ ∀ H', Ex H H' → Q .non H'
def NewK (K : PySem.W.Frag) (ks : List Ky) (H : Hp) (Q : L2.VK) : Prop := ∀ p H', H p = none → Ex H H' → LsK K H' p ks → Q (.ref p) H'
def sp_after_click (K : PySem.W.Frag) : Sp := fun vs H Q _ => ∃ (p : Addr) (ks : List Ky) (c : Int), vs = [.ref p, .int c] ∧ LsK K H p ks ∧ ks.length ≤ 500 ∧ NewK K (click ks c) H Q
def sp_after_clicks (K : PySem.W.Frag) : Sp := fun vs H Q _ => ∃ (p a : Addr) (ks : List Ky) (cs : List Int), vs = [.ref p, .ref a] ∧ LsK K H p ks ∧ SqL K H a (cs.map V.int) ∧ ks.length + cs.length ≤ 500 ∧ NewK K (afterL ks cs) H Q
def sp_has_form (K : PySem.W.Frag) : Sp := fun vs H Q _ => ∃ (v : V) (f : Fm), vs = [v] ∧ FmQ K H v f ∧ f.1.length ≤ 500 ∧ Evl.RetV (.bl (hasForm f)) H Q
def sp_need_form (K : PySem.W.Frag) : Sp := fun vs H Q _ => ∃ (v : V) (f : Fm), vs = [v] ∧ FmQ K H v f ∧ f.1.length ≤ 500 ∧ hasForm f = true ∧ ∀ H', Ex H H' → Q .non H'
def sp_columns_of (K : PySem.W.Frag) : Sp := fun vs H Q _ => ∃ (p : Addr) (ks : List Ky), vs = [.ref p] ∧ LsK K H p ks ∧ ks.length ≤ 500 ∧ New (.lst ((cols ks).map V.int)) H Q
def sp_is_left_alone (K : PySem.W.Frag) : Sp := fun vs H Q _ => ∃ (a : Addr) (cs : List Int), vs = [.ref a] ∧ SqL K H a (cs.map V.int) ∧ cs.length ≤ 500 ∧ Evl.RetV (.bl (leftAlone cs)) H Q
def sp_made_form (K : PySem.W.Frag) : Sp := fun vs H Q _ => ∃ (a : Addr) (cs : List Int), vs = [.ref a] ∧ SqL K H a (cs.map V.int) ∧ cs.length ≤ 500 ∧ (∀ c ∈ cs, 0 ≤ c) ∧ ∀ v H', Ex H H' → FmR K H' v (formL cs) → Q v H'
def sp_made_of (K : PySem.W.Frag) : Sp := fun vs H Q _ => ∃ (v : V) (p : Addr) (f : Fm) (s : List Ky), vs = [v, .ref p] ∧ FmR K H v f ∧ LsK K H p s ∧ f.1.length ≤ 500 ∧ s.length ≤ 500 ∧ (f.2 = true → f.1 ≠ []) ∧ NewK K (madeOf f s) H Q
def sp_formed (K : PySem.W.Frag) : Sp := fun vs H Q _ => ∃ (v : V) (p : Addr) (f : Fm) (s : List Ky), vs = [v, .ref p] ∧ FmR K H v f ∧ LsK K H p s ∧ f.1.length ≤ 500 ∧ s.length ≤ 500 ∧ hasForm f = true ∧ areKeys s = true ∧ (f.2 = true → f.1 ≠ []) ∧ NewK K (madeOf f s) H Q
/-- a list of keys, or None -/
def OptK (K : PySem.W.Frag) (H : Hp) (v : V) : Option (List Ky) → Prop
  | none => v = .non
  | some ks => ∃ p, v = .ref p ∧ LsK K H p ks
theorem click_len (ks : List Ky) (c : Int) : (click ks c).length ≤ ks.length + 1 := by
  cases ks with
  | nil => exact Nat.le_refl _
  | cons k r =>
    show (if k.1 = c then (c, -k.2) :: r else (c, 1) :: (k :: r).filter _).length ≤ _
    split
    · simp
    · have := List.length_filter_le (fun x : Ky => !decide (x.1 = c)) (k :: r)
      simp only [List.length_cons] at *
      omega
theorem after_len : ∀ (cs : List Int) (ks : List Ky), (afterL ks cs).length ≤ ks.length + cs.length
  | [], ks => Nat.le_refl _
  | c :: cs, ks => by
    have := after_len cs (click ks c)
    have := click_len ks c
    show (afterL (click ks c) cs).length ≤ _
    rw [List.length_cons]
    omega
theorem take_after {cs : List Int} {i : Nat} {c : Int} (h : cs[i]? = some c) (ks : List Ky) : afterL ks (cs.take (i + 1)) = click (afterL ks (cs.take i)) c := by
  rw [take_snoc h, afterL_snoc]
section
variable {w : World} {K : PySem.W.Frag} {mg : Str → Option Value} {base : Heap}
theorem ok_are_keys (T : Txt K mg) : FnOk PR w K mg base CX0 1 T.a_are_keys T.d_are_keys ["sorting"] (sp_are_keys K) := by
  refine T.f_are_keys.ok sc_are_keys (fun vs H Q E h => ?_) (fun cdv A outer s H vs Q E hr h => ?_)
  · obtain ⟨p, ks, rfl, _⟩ := h
    rfl
  · obtain ⟨p, ks, rfl, ⟨us, hp, hk⟩, hl, k⟩ := h
    refine ⟨_, (pss_cons (ps_setLc (i := 1) (own := [("column", 2), ("sign", 3)]) (g := (gTup K 2 (gCons (gName 2) (gCons (gName 3) gNil)))) (by rfl) sc_are_keys.nd rfl rfl (sw_true rfl rfl rfl (by decide +kernel)) (pi_list (pv 0)) (blkOk_by (own := [("column", 2), ("sign", 3)]) (N := ["sorting", "columns", "column", "sign"]) (sc := (defScope s_are_keys)) (by decide +kernel)) (fun _ _ _ _ _ => (pg_tup rfl (pgs_cons (pg_name (i := 2) sc_are_keys.nd rfl (by first | exact Or.inl rfl | exact Or.inr rfl)) (pgs_cons (pg_name (i := 3) sc_are_keys.nd rfl (by first | exact Or.inl rfl | exact Or.inr rfl)) pgs_nil)))) (fun _ _ _ _ _ => pts_nil) (fun _ _ _ _ _ => (pv 2))) (pss_cons (ps_if (pt_cmpR op_ne (pe_lenSetG (by rfl) T.z_len (by rfl) T.z_set (pv 1)) (pe_callB call_len_seq (by rfl) T.z_len PySem.boot_len (pa_cons (pv 1) pa_nil)) (nomark _)) (pss_one (ps_ret pe_bl)) pss_nil) (pss_one (ps_ret (pe_callB (cr_all rfl) (by rfl) T.z_all (by decide +kernel) (pa_cons (pe_lc (own := [("column", 2), ("sign", 3)]) (g := (gTup K 2 (gCons (gName 2) (gCons (gName 3) gNil)))) (by rfl) sc_are_keys.nd (pi_list (pv 0)) (blkOk_by (own := [("column", 2), ("sign", 3)]) (N := ["sorting", "columns", "column", "sign"]) (sc := (defScope s_are_keys)) (by decide +kernel)) (fun _ _ _ _ _ => (pg_tup rfl (pgs_cons (pg_name (i := 2) sc_are_keys.nd rfl (by first | exact Or.inl rfl | exact Or.inr rfl)) (pgs_cons (pg_name (i := 3) sc_are_keys.nd rfl (by first | exact Or.inl rfl | exact Or.inr rfl)) pgs_nil)))) (fun _ _ _ _ _ => pts_nil) (fun _ _ _ _ _ => (pe_and (pe_cmpR op_ge (pv 2) pe_int (nomark _)) (pe_one (pe_cmpR (opK (r := fun K => rIn K false) (K := K) (by rfl) op_in_seq) (pv 3) (pe_tupG (pa_cons pe_int (pa_cons (pe_un un_neg pe_int) pa_nil))) (by rfl)))))) pa_nil)))))), ?_⟩
    have ul := hk.1
    refine ⟨_, rfl, p, rfl, ⟨_, hp⟩, fun D hD => lc_mapG (K := K) (a := p) (ys := (cols ks).map V.int) (hp) hD (by simp [cols, ul]) (Nat.le_trans (show us.length ≤ 500 by omega) (by decide)) ?_ ?_⟩
    · intro i x y H' e' hx hy N Z kN
      obtain ⟨k, hki, q, rfl, hq⟩ := hk.get hx
      have hy' : (cols ks)[i]? = some k.1 := by unfold cols; rw [List.getElem?_map, hki]; rfl
      rw [List.getElem?_map, hy'] at hy
      cases hy
      refine ⟨_, _, rfl, Evl.ex_t e' hq, rfl, _, _, rfl, _, _, rfl, rfl, rfl, ?_⟩
      show _
      exact ⟨_, rfl, kN H' (Evl.Ex.refl _)⟩
    intro H1 e1 d1
    have cl : (cols ks).length = ks.length := by simp [cols]
    refine ⟨_, rfl, D, cols ks, rfl, sqI d1, by omega, fun c hc => ?_⟩
    refine ⟨_, rfl, _, _, rfl, .inl (sqI d1), rfl, _, rfl, ?_⟩
    rw [List.length_map, decInt]
    have dn := diff_nodup hc
    have ak : areKeys ks = (decide ((cols ks).Nodup) && ks.all okK) := rfl
    refine ifB (fun z => ?_) (fun z => ?_)
    · have : ¬ (cols ks).Nodup := fun y => by
        have := dn.mpr y
        rw [this] at z
        simp at z
      rw [decide_eq_false this, Bool.false_and] at ak
      rw [← ak]
      exact k H1 e1
    · have nd : (cols ks).Nodup := dn.mp (by
        have z : ((c : Nat) : Int) = (((cols ks).length : Nat) : Int) := by simpa using z
        omega)
      rw [decide_eq_true nd, Bool.true_and] at ak
      refine ⟨_, rfl, p, rfl, ⟨_, Evl.ex_l e1 hp⟩, fun D2 hD2 => lc_mapG (K := K) (a := p) (ys := (ks.map okK).map V.bl) (Evl.ex_l e1 hp) hD2 (by simp [ul]) (Nat.le_trans (show us.length ≤ 500 by omega) (by decide)) ?_ ?_⟩
      · intro i x y H' e' hx hy N Z kN
        obtain ⟨k, hki, q, rfl, hq⟩ := hk.get hx
        rw [List.getElem?_map, List.getElem?_map, hki] at hy
        cases hy
        refine ⟨_, _, rfl, Evl.ex_t (e1.trans e') hq, rfl, _, _, rfl, _, _, rfl, rfl, rfl, ?_⟩
        show _
        refine ⟨_, rfl, _, _, rfl, rfl, _, rfl, ?_⟩
        have ok : okK k = (decide (0 ≤ k.1) && decide (k.2 ∈ [1, (-1 : Int)])) := rfl
        refine ifB (fun z => ?_) (fun z => ?_)
        · have z : 0 ≤ k.1 := of_decide_eq_true z
          rw [decide_eq_true z, Bool.true_and] at ok
          refine ⟨_, rfl, _, rfl, (by show 2 ≤ sizeLine; decide), fun p3 H3 n3 e3 h3 => ?_⟩
          refine ⟨_, _, rfl, .inr (sqT h3), rfl, rfl, ?_⟩
          show N (.bl (inV (V.int k.2) ([1, (-1 : Int)].map V.int))) _
          rw [inV_int, ← ok]
          exact kN H3 e3
        · have z : ¬ 0 ≤ k.1 := of_decide_eq_false z
          rw [decide_eq_false z, Bool.false_and] at ok
          rw [ok] at kN
          exact kN H' (Evl.Ex.refl _)
      intro H2 e2 d2
      refine ⟨D2, ks.map okK, rfl, sqI d2, ?_⟩
      have : (ks.map okK).all id = ks.all okK := by rw [List.all_map]; rfl
      rw [this, ← ak]
      exact k H2 (e1.trans e2)
theorem ok_need_keys (T : Txt K mg) : FnOk PR w K mg base (L2.CX PR w) 3 T.a_need_keys T.d_need_keys ["sorting"] (sp_need_keys K) := by
  refine T.f_need_keys.okX sc_need_keys (fun vs H Q E h => ?_) (fun cdv A outer s H vs Q E hr h => ?_)
  · obtain ⟨p, ks, rfl, _⟩ := h
    rfl
  · obtain ⟨p, ks, rfl, hp, hl, ok, k⟩ := h
    refine ⟨_, (pss_one (ps_if (pt_not (pt_val (pe_call (ok_are_keys T) (hr.mono (by decide)) (by rfl) T.g_are_keys T.f_are_keys.kp (b_are_keys T) .nil pass0 (pa_cons (pv 0) pa_nil)))) (pss_one (ps_raise rfl (takes_of rfl rfl rfl rfl) (pmk_err (ok_init T) (b_init T) T.e_InvalidSorting (hr.mono (by decide)) (by rfl) T.g_InvalidSorting (pa_cons (pe_callTy call_listG (by rfl) T.z_list (by decide +kernel) (pa_cons (pv 0) pa_nil)) pa_nil)))) pss_nil)), ?_⟩
    refine ⟨_, rfl, p, ks, rfl, hp, hl, fun H1 e1 => ?_⟩
    rw [ok]
    exact ⟨_, rfl, ifF rfl (k H1 e1)⟩
theorem ok_after_click (T : Txt K mg) : FnOk PR w K mg base CX0 1 T.a_after_click T.d_after_click ["sorting", "column"] (sp_after_click K) := by
  refine T.f_after_click.ok sc_after_click (fun vs H Q E h => ?_) (fun cdv A outer s H vs Q E hr h => ?_)
  · obtain ⟨p, ks, c, rfl, _⟩ := h
    rfl
  · obtain ⟨p, ks, c, rfl, hp, hl, k⟩ := h
    refine ⟨_, (pss_cons (ps_if (PW.pt (pw_and (pt_cmpR (op_neD hr.units) (pv 0) (pe_lstG pa_nil) (nomark _)) (pw_and1 (pt_cmpR op_eq (pe_ix ix_tup (pe_ix ix_list (pv 0) pe_int (fun _ _ => rfl)) pe_int (fun _ _ => rfl)) (pv 1) (nomark _))))) (pss_one (ps_ret (pe_lstG (pa_cons (pe_tupG (pa_cons (pv 1) (pa_cons (pe_un un_neg (pe_ix ix_tup (pe_ix ix_list (pv 0) pe_int (fun _ _ => rfl)) pe_int (fun _ _ => rfl))) pa_nil))) (StX.pa_star (pe_slice sl_listG (pv 0) (po_some pe_int) po_none) pa_nil))))) pss_nil) (pss_one (ps_ret (pe_lstG (pa_cons (pe_tupG (pa_cons (pv 1) (pa_cons pe_int pa_nil))) (StX.pa_star (pe_lc (own := [("key", 2)]) (g := gName 2) (by rfl) sc_after_click.nd (pi_list (pv 0)) (blkOk_by (own := [("key", 2)]) (N := ["sorting", "column", "key"]) (sc := (defScope s_after_click)) (by decide +kernel)) (fun _ _ _ _ _ => (pg_name (i := 2) sc_after_click.nd rfl (by first | exact Or.inl rfl | exact Or.inr rfl))) (fun _ _ _ _ _ => (pts_one (pt_cmpR op_ne (pe_ix (ixK (r := rIxT) (K := K) (by rfl) ix_tup) (pv 2) pe_int (fun _ _ => rfl)) (pv 1) (nomark _)))) (fun _ _ _ _ _ => (pv 2))) pa_nil)))))), ?_⟩
    obtain ⟨us, hu, hk⟩ := id hp
    have ul := hk.1
    refine ⟨_, rfl, (by show 0 ≤ sizeLine; decide), fun p1 H1 n1 e1 h1 => ?_⟩
    refine neE (goodL goodK) (by decide) (x := ks) (y := []) (hp.ex e1).dp (nilD h1) ⟨_, rfl, ?_⟩
    have other : (∀ k0 r, ks = k0 :: r → k0.1 ≠ c) → click ks c = (c, 1) :: ks.filter (fun x => !decide (x.1 = c)) := fun h => by
      cases ks with
      | nil => rfl
      | cons k0 r => exact if_neg (h k0 r rfl)
    refine ifB (fun z => ?_) (fun z => ?_)
    · have ne : ks ≠ [] := by simpa using z
      obtain ⟨k0, r, rfl⟩ := optHead ne
      obtain ⟨u0, t, rfl⟩ : ∃ u0 t, us = u0 :: t := by
        cases us with
        | nil => cases ul
        | cons u t => exact ⟨u, t, rfl⟩
      obtain ⟨q0, e0, hq0⟩ := hk.2 0 u0 k0 rfl rfl
      subst e0
      have hq1 := Evl.ex_t e1 hq0
      refine ⟨_, rfl, _, _, _, _, rfl, rfl, sqI (e1 _ _ hu), at0, _, _, _, _, rfl, rfl, hq1, at0, _, rfl, rfl, _, rfl, ?_⟩
      rw [decInt]
      refine ifB (fun c1 => ?_) (fun c1 => ?_)
      · have ec : k0.1 = c := of_decide_eq_true c1
        refine ⟨_, rfl, _, rfl, _, _, _, _, rfl, rfl, sqI (e1 _ _ hu), at0, _, _, _, _, rfl, rfl, hq1, at1, _, rfl, (by show 2 ≤ sizeLine; decide), fun p2 H2 n2 e2 h2 => ?_⟩
        refine ⟨_, rfl, _, rfl, _, _, rfl, sqI ((e1.trans e2) _ _ hu), fun p3 H3 n3 e3 h3 => ?_⟩
        have ct : cutV (V.ref q0 :: t) (some 1) none = t := cut_from _ 1
        rw [ct] at h3
        refine ⟨p3, t, rfl, .inr (sqI h3), ?_, fun p4 H4 n4 e4 h4 => ?_⟩
        · simp only [List.length_cons] at ul hl
          show (V.ref p2 :: (t ++ [])).length ≤ sizeLine
          rw [List.append_nil, List.length_cons]
          exact Nat.le_trans (show _ ≤ 501 by omega) (by decide)
        have e14 := e2.trans (e3.trans e4)
        have e04 := e1.trans e14
        refine k p4 H4 (none_of (e1.trans (e2.trans e3)) n4) e04 ?_
        have cl : click (k0 :: r) c = (c, -k0.2) :: r := if_pos ec
        rw [cl]
        refine ⟨V.ref p2 :: t, ?_, ?_⟩
        · rw [h4]
          show some (HO.lst (V.ref p2 :: (t ++ []))) = _
          rw [List.append_nil]
        · have tl : KsAt K H4 t r := ⟨by simpa using ul, fun i v x h1 h2 => (hk.ex e04).2 (i + 1) v x h1 h2⟩
          exact (AllR.one (R := KyR K H4) ⟨p2, rfl, sqT ((e3.trans e4) _ _ h2)⟩).append tl
      · have nc : k0.1 ≠ c := of_decide_eq_false c1
        rw [other (fun k' r' e => by cases e; exact nc)] at k
        refine ⟨_, rfl, (by show 2 ≤ sizeLine; decide), fun p2 H2 n2 e2 h2 => ?_⟩
        have e12 := e1.trans e2
        refine ⟨_, rfl, p, rfl, ⟨_, sqI (e12 _ _ hu)⟩, fun D hD => lc_filtO (K := K) (a := p) (R := KyR K H2) (ys := k0 :: r) (p := fun x => !decide (x.1 = c)) (sqI (e12 _ _ hu)) (hk.ex e12) hD (by omega) (fun x => rfl) ?_ ?_ ?_⟩
        · rintro v y H' hy ⟨q, rfl, hq⟩ e' Z kZ
          refine ⟨_, rfl, _, _, _, _, rfl, rfl, Evl.ex_t e' hq, at0, _, rfl, rfl, _, rfl, ?_⟩
          rw [decInt]
          exact kZ H' (Evl.Ex.refl _)
        · intro v H' N kN
          exact ⟨_, rfl, kN⟩
        intro H3 us3 e3 d3 r3
        have l3 := r3.1
        have lf := List.length_filter_le (fun x : Ky => !decide (x.1 = c)) (k0 :: r)
        refine ⟨D, us3, rfl, .inr (sqI d3), ?_, fun p4 H4 n4 e4 h4 => ?_⟩
        · show (V.ref p2 :: (us3 ++ [])).length ≤ sizeLine
          rw [List.append_nil, List.length_cons]
          exact Nat.le_trans (show _ ≤ 501 by omega) (by decide)
        refine k p4 H4 (none_of (e12.trans e3) n4) (e12.trans (e3.trans e4)) ⟨V.ref p2 :: us3, ?_, ?_⟩
        · rw [h4]
          show some (HO.lst (V.ref p2 :: (us3 ++ []))) = _
          rw [List.append_nil]
        · exact (AllR.one (R := KyR K H4) ⟨p2, rfl, sqT ((e3.trans e4) _ _ h2)⟩).append (r3.mono fun v x r => r.ex (e3.trans e4))
    · have e : ks = [] := by simpa using z
      rw [other (fun k' r' h => by rw [e] at h; cases h)] at k
      refine ⟨_, rfl, (by show 2 ≤ sizeLine; decide), fun p2 H2 n2 e2 h2 => ?_⟩
      have e12 := e1.trans e2
      refine ⟨_, rfl, p, rfl, ⟨_, sqI (e12 _ _ hu)⟩, fun D hD => lc_filtO (K := K) (a := p) (R := KyR K H2) (ys := ks) (p := fun x => !decide (x.1 = c)) (sqI (e12 _ _ hu)) (hk.ex e12) hD (by omega) (fun x => rfl) ?_ ?_ ?_⟩
      · rintro v y H' hy ⟨q, rfl, hq⟩ e' Z kZ
        refine ⟨_, rfl, _, _, _, _, rfl, rfl, Evl.ex_t e' hq, at0, _, rfl, rfl, _, rfl, ?_⟩
        rw [decInt]
        exact kZ H' (Evl.Ex.refl _)
      · intro v H' N kN
        exact ⟨_, rfl, kN⟩
      intro H3 us3 e3 d3 r3
      have l3 := r3.1
      have lf := List.length_filter_le (fun x : Ky => !decide (x.1 = c)) ks
      refine ⟨D, us3, rfl, .inr (sqI d3), ?_, fun p4 H4 n4 e4 h4 => ?_⟩
      · show (V.ref p2 :: (us3 ++ [])).length ≤ sizeLine
        rw [List.append_nil, List.length_cons]
        exact Nat.le_trans (show _ ≤ 501 by omega) (by decide)
      refine k p4 H4 (none_of (e12.trans e3) n4) (e12.trans (e3.trans e4)) ⟨V.ref p2 :: us3, ?_, ?_⟩
      · rw [h4]
        show some (HO.lst (V.ref p2 :: (us3 ++ []))) = _
        rw [List.append_nil]
      · exact (AllR.one (R := KyR K H4) ⟨p2, rfl, sqT ((e3.trans e4) _ _ h2)⟩).append (r3.mono fun v x r => r.ex (e3.trans e4))
theorem ok_after_clicks (T : Txt K mg) : FnOk PR w K mg base CX0 2 T.a_after_clicks T.d_after_clicks ["sorting", "clicks"] (sp_after_clicks K) := by
  refine T.f_after_clicks.ok sc_after_clicks (fun vs H Q E h => ?_) (fun cdv A outer s H vs Q E hr h => ?_)
  · obtain ⟨p, a, ks, cs, rfl, _⟩ := h
    rfl
  · obtain ⟨p, a, ks, cs, rfl, hp, ha, hl, k⟩ := h
    refine ⟨_, (pss_cons (ps_set (i := 2) sc_after_clicks.nd rfl (by first | exact Or.inl rfl | exact Or.inr rfl) (pe_callTy call_listG (by rfl) T.z_list (by decide +kernel) (pa_cons (pv 0) pa_nil))) (pss_cons (ps_for PassesOwn.never rfl (pi_list (pv 1)) (pg_name (i := 3) sc_after_clicks.nd rfl (by first | exact Or.inl rfl | exact Or.inr rfl)) (pss_one (ps_set (i := 2) sc_after_clicks.nd rfl (by first | exact Or.inl rfl | exact Or.inr rfl) (pe_call (ok_after_click T) (hr.mono (by decide)) (by rfl) T.g_after_click T.f_after_click.kp (b_after_click T) .nil pass0 (pa_cons (pv 2) (pa_cons (pv 3) pa_nil)))))) (pss_one (ps_ret (pv 2))))), ?_⟩
    obtain ⟨us, hu, hk⟩ := id hp
    refine ⟨_, rfl, p, us, rfl, .inl (sqI hu), fun p1 H1 n1 e1 h1 => ?_⟩
    refine ⟨_, rfl, a, rfl, ⟨_, Evl.ex_l e1 ha⟩, for_it (walk_list (K := K) (a := a) (xs := cs.map V.int)) (fun i σ H' => ∃ (f : Addr) (v3 : Option V), σ = [some (.ref p), some (.ref a), some (.ref f), v3] ∧ H f = none ∧ Ex H H' ∧ LsK K H' f (afterL ks (cs.take i))) ⟨p1, _, rfl, n1, e1, us, h1, hk.ex e1⟩ (fun i σ H' _ ⟨_, _, _, _, e, _⟩ => Evl.ex_l e ha) ?_ ?_⟩
    · rintro i v σ HX H2 hi ⟨f, v3, rfl, nf, e2, hf⟩ ⟨rfl, hv⟩
      obtain ⟨c, hc, rfl⟩ := mapI_get hv
      have := after_len (cs.take i) ks
      rw [List.length_take] at this
      refine ⟨_, rfl, _, rfl, f, _, c, rfl, hf, by omega, fun p3 H3 n3 e3 h3 => ?_⟩
      exact ⟨p3, _, rfl, none_of e2 n3, e2.trans e3, by rw [take_after hc]; exact h3⟩
    · rintro σ H2 ⟨f, v3, rfl, nf, e2, hf⟩
      rw [List.length_map, List.take_length] at hf
      exact ⟨_, rfl, k f H2 nf e2 hf⟩
end
end K10
set_option Elab.async false
set_option pp.maxSteps 1200
set_option linter.all false
set_option maxRecDepth 100000
set_option maxHeartbeats 4000000
namespace K10
open PySem L2 My
theorem lastV {us : List V} {ks : List Ky} {K : PySem.W.Frag} {H : Hp} (h : KsAt K H us ks) (ne : ks ≠ []) : ∃ q l k, ks = l ++ [k] ∧ atI us (-1) = some (.ref q) ∧ SqT K H q [.int k.1, .int k.2] := by
  obtain ⟨l, k, rfl⟩ := snoc_of ne
  have ul := h.1
  have hk : (l ++ [k])[l.length]? = some k := by simp
  obtain ⟨v, hv, q, rfl, hq⟩ := h.row hk
  refine ⟨q, l, k, rfl, ?_, hq⟩
  rw [List.length_append] at ul
  have ul : us.length = l.length + 1 := ul
  have : us = us.take l.length ++ [.ref q] := by
    rw [← take_snoc hv, List.take_of_length_le (by omega)]
  rw [this]
  exact atI_last _ _
theorem cell_atN {cs : List Int} {i : Nat} (h : i < cs.length) : atI (cs.map V.int) ((i : Nat) : Int) = some (.int (cs.getD i 0)) := by
  refine at_of (j := i) rfl ?_
  rw [List.getElem?_map, List.getD_eq_getElem?_getD, List.getElem?_eq_getElem h]
  rfl
theorem cut_last (xs : List V) (n : Nat) (h : xs.length = n + 1) : cutV xs none (some (-1)) = xs.take n := by
  unfold cutV
  rw [HT.sIx_none]
  have : HT.sIx xs.length xs.length (some (-1)) = n := by
    unfold HT.sIx
    simp
    omega
  rw [this, List.drop_zero, Nat.sub_zero]
theorem restL_len (ks s : List Ky) : (restL ks s).length ≤ s.length := List.length_filter_le _ _
section
variable {w : World} {K : PySem.W.Frag} {mg : Str → Option Value} {base : Heap}
theorem ok_has_form (T : Txt K mg) : FnOk PR w K mg base CX0 2 T.a_has_form T.d_has_form ["form"] (sp_has_form K) := by
  refine T.f_has_form.ok sc_has_form (fun vs H Q E h => ?_) (fun cdv A outer s H vs Q E hr h => ?_)
  · obtain ⟨v, f, rfl, _⟩ := h
    rfl
  · obtain ⟨v, ⟨ks, b⟩, rfl, ⟨p, q, rfl, hp, hq⟩, hl, k⟩ := h
    refine ⟨_, (pss_cons (ps_asg (pv 0) (pg_tup rfl (pgs_cons (pg_name (i := 1) sc_has_form.nd rfl (by first | exact Or.inl rfl | exact Or.inr rfl)) (pgs_cons (pg_name (i := 2) sc_has_form.nd rfl (by first | exact Or.inl rfl | exact Or.inr rfl)) pgs_nil)))) (pss_cons (ps_if (pt_not (pt_val (pe_call (ok_are_keys T) (hr.mono (by decide)) (by rfl) T.g_are_keys T.f_are_keys.kp (b_are_keys T) .nil pass0 (pa_cons (pv 1) pa_nil)))) (pss_one (ps_ret pe_bl)) pss_nil) (pss_one (ps_ret (pe_or (pe_cmpR op_eq (pv 2) (pe_cmpR (op_neD hr.units) (pv 1) (pe_lstG pa_nil) (nomark _)) (nomark _)) (pe_one (pe_cmpR op_gt (pe_callB call_len_seq (by rfl) T.z_len PySem.boot_len (pa_cons (pv 1) pa_nil)) pe_int (nomark _)))))))), ?_⟩
    obtain ⟨us, hu, hk⟩ := id hq
    have ul : us.length = ks.length := hk.1
    refine ⟨_, rfl, _, _, rfl, hp, rfl, _, _, rfl, _, _, rfl, rfl, ?_⟩
    refine ⟨_, rfl, q, ks, rfl, hq, hl, fun H1 e1 => ?_⟩
    have hf : hasForm (ks, b) = (areKeys ks && (decide (b = decide (ks ≠ [])) || decide (ks.length > 1))) := rfl
    refine ⟨_, rfl, ?_⟩
    cases z : areKeys ks with
    | false =>
      rw [z, Bool.false_and] at hf
      rw [hf] at k
      exact ifT rfl (k H1 e1)
    | true =>
      rw [z, Bool.true_and] at hf
      refine ifF rfl ?_
      refine ⟨_, rfl, _, rfl, (by show 0 ≤ sizeLine; decide), fun p2 H2 n2 e2 h2 => ?_⟩
      refine neE (goodL goodK) (by decide) (x := ks) (y := []) (hq.ex (e1.trans e2)).dp (nilD h2) ?_
      have eb : (!decide (ks = [])) = decide (ks ≠ []) := by simp
      rw [eb]
      refine ⟨rfl, _, rfl, ?_⟩
      rw [decBl]
      refine ifB (fun c => ?_) (fun c => ?_)
      · rw [c, Bool.true_or] at hf
        rw [hf] at k
        exact k H2 (e1.trans e2)
      · rw [c, Bool.false_or] at hf
        rw [hf] at k
        refine ⟨_, rfl, _, _, rfl, .inl (Evl.ex_l (e1.trans e2) hu), _, _, rfl, rfl, ?_⟩
        have : decide (((us.length : Nat) : Int) > 1) = decide (ks.length > 1) := by
          rw [decide_eq_decide]
          omega
        show Q (.bl (decide (((us.length : Nat) : Int) > 1))) H2
        rw [this]
        exact k H2 (e1.trans e2)
theorem ok_need_form (T : Txt K mg) : FnOk PR w K mg base (L2.CX PR w) 3 T.a_need_form T.d_need_form ["form"] (sp_need_form K) := by
  refine T.f_need_form.okX sc_need_form (fun vs H Q E h => ?_) (fun cdv A outer s H vs Q E hr h => ?_)
  · obtain ⟨v, f, rfl, _⟩ := h
    rfl
  · obtain ⟨v, f, rfl, hf, hl, ok, k⟩ := h
    refine ⟨_, (pss_one (ps_if (pt_not (pt_val (pe_call (ok_has_form T) (hr.mono (by decide)) (by rfl) T.g_has_form T.f_has_form.kp (b_has_form T) .nil pass0 (pa_cons (pv 0) pa_nil)))) (pss_one (ps_raise rfl (takes_of rfl rfl rfl rfl) (pmk_err (ok_init T) (b_init T) T.e_InvalidSorting (hr.mono (by decide)) (by rfl) T.g_InvalidSorting (pa_cons (pe_tupG (pa_cons (pe_callTy call_listG (by rfl) T.z_list (by decide +kernel) (pa_cons (pe_ix ix_tup (pv 0) pe_int (fun _ _ => rfl)) pa_nil)) (pa_cons (pe_ix ix_tup (pv 0) pe_int (fun _ _ => rfl)) pa_nil))) pa_nil)))) pss_nil)), ?_⟩
    refine ⟨_, rfl, v, f, rfl, hf, hl, fun H1 e1 => ?_⟩
    rw [ok]
    exact ⟨_, rfl, ifF rfl (k H1 e1)⟩
theorem ok_columns_of (T : Txt K mg) : FnOk PR w K mg base CX0 1 T.a_columns_of T.d_columns_of ["keys"] (sp_columns_of K) := by
  refine T.f_columns_of.ok sc_columns_of (fun vs H Q E h => ?_) (fun cdv A outer s H vs Q E hr h => ?_)
  · obtain ⟨p, ks, rfl, _⟩ := h
    rfl
  · obtain ⟨p, ks, rfl, ⟨us, hp, hk⟩, hl, k⟩ := h
    refine ⟨_, (pss_one (ps_ret (pe_lc (own := [("column", 1), ("sign", 2)]) (g := (gTup K 2 (gCons (gName 1) (gCons (gName 2) gNil)))) (by rfl) sc_columns_of.nd (pi_list (pv 0)) (blkOk_by (own := [("column", 1), ("sign", 2)]) (N := ["keys", "column", "sign"]) (sc := (defScope s_columns_of)) (by decide +kernel)) (fun _ _ _ _ _ => (pg_tup rfl (pgs_cons (pg_name (i := 1) sc_columns_of.nd rfl (by first | exact Or.inl rfl | exact Or.inr rfl)) (pgs_cons (pg_name (i := 2) sc_columns_of.nd rfl (by first | exact Or.inl rfl | exact Or.inr rfl)) pgs_nil)))) (fun _ _ _ _ _ => pts_nil) (fun _ _ _ _ _ => (pv 1))))), ?_⟩
    have ul := hk.1
    refine ⟨_, rfl, p, rfl, ⟨_, sqI hp⟩, fun D hD => lc_mapG (K := K) (a := p) (ys := (cols ks).map V.int) (sqI hp) hD (by simp [cols, ul]) (Nat.le_trans (show us.length ≤ 500 by omega) (by decide)) ?_ ?_⟩
    · intro i x y H' e' hx hy N Z kN
      obtain ⟨k, hki, q, rfl, hq⟩ := hk.get hx
      have hy' : (cols ks)[i]? = some k.1 := by unfold cols; rw [List.getElem?_map, hki]; rfl
      rw [List.getElem?_map, hy'] at hy
      cases hy
      refine ⟨_, _, rfl, Evl.ex_t e' hq, rfl, _, _, rfl, _, _, rfl, rfl, rfl, ?_⟩
      show _
      exact ⟨_, rfl, kN H' (Evl.Ex.refl _)⟩
    intro H1 e1 d1
    exact k D H1 hD e1 d1
theorem ok_is_left_alone (T : Txt K mg) : FnOk PR w K mg base CX0 1 T.a_is_left_alone T.d_is_left_alone ["clicks"] (sp_is_left_alone K) := by
  refine T.f_is_left_alone.ok sc_is_left_alone (fun vs H Q E h => ?_) (fun cdv A outer s H vs Q E hr h => ?_)
  · obtain ⟨a, cs, rfl, _⟩ := h
    rfl
  · obtain ⟨a, cs, rfl, ha, hl, k⟩ := h
    refine ⟨_, (pss_cons (ps_set (i := 1) sc_is_left_alone.nd rfl (by first | exact Or.inl rfl | exact Or.inr rfl) pe_int) (pss_cons (ps_while PassesOwn.never (PW.pt (pw_and (pt_cmpR op_lt (pv 1) (pe_callB call_len_seq (by rfl) T.z_len PySem.boot_len (pa_cons (pv 0) pa_nil)) (nomark _)) (pw_and1 (pt_cmpR op_eq (pe_ix ix_list (pv 0) (pv 1) (fun _ _ => rfl)) (pe_ix ix_list (pv 0) pe_int (fun _ _ => rfl)) (nomark _))))) (pss_one (ps_set (i := 1) sc_is_left_alone.nd rfl (by first | exact Or.inl rfl | exact Or.inr rfl) (pe_op op_add (pv 1) pe_int)))) (pss_one (ps_ret (pe_and (pe_cmpR (op_neD hr.units) (pv 0) (pe_lstG pa_nil) (nomark _)) (pe_one (pe_cmpR op_notIn_seq (pe_ix ix_list (pv 0) pe_int (fun _ _ => rfl)) (pe_slice sl_listG (pv 0) (po_some (pv 1)) po_none) (by rfl)))))))), ?_⟩
    let P := fun c : Int => decide (c = cs.getD 0 0)
    have dw : ∀ i, i < cs.length → (∀ x ∈ cs.take i, P x = true) → ∀ c, cs[i]? = some c → P c = false → cs.dropWhile P = cs.drop i := fun i hi hx c hc pc => by
      have : cs = cs.take i ++ cs.drop i := (List.take_append_drop i cs).symm
      have hd : cs.drop i = c :: cs.drop (i + 1) := by
        rw [List.drop_eq_getElem_cons hi]
        congr 1
        exact (List.getElem?_eq_some_iff.mp hc).2
      have go : ∀ l m : List Int, (∀ x ∈ l, P x = true) → (l ++ c :: m).dropWhile P = c :: m := fun l m => by
        induction l with
        | nil => intro _; rw [List.nil_append, List.dropWhile_cons, pc]; rfl
        | cons x l ih =>
          intro h
          rw [List.cons_append, List.dropWhile_cons, h x List.mem_cons_self]
          exact ih fun y hy => h y (List.mem_cons_of_mem _ hy)
      have e := go (cs.take i) (cs.drop (i + 1)) hx
      rw [← hd, List.take_append_drop] at e
      exact e
    have fin : ∀ i, i ≤ cs.length → cs.dropWhile P = cs.drop i → True → leftAlone cs = (decide (cs ≠ []) && !decide (cs.getD 0 0 ∈ cs.drop i)) := fun i hi hd _ => by
      cases cs with
      | nil => rfl
      | cons c0 r =>
        show (!decide (c0 ∈ (c0 :: r).dropWhile (fun c => decide (c = c0)))) = (true && !decide (c0 ∈ (c0 :: r).drop i))
        rw [Bool.true_and, ← hd]
        rfl
    refine ⟨fun m σ' H' => ∃ i : Nat, m = cs.length - i ∧ i ≤ cs.length ∧ σ' = [some (.ref a), some (.int (i : Nat))] ∧ H' = H ∧ ∀ x ∈ cs.take i, P x = true, ⟨_, 0, rfl, Nat.zero_le _, rfl, rfl, fun x hx => by cases hx⟩, ?_⟩
    rintro m σ' H' ⟨i, rfl, hi, rfl, rfl, hx⟩
    refine ⟨_, rfl, _, rfl, _, _, rfl, .inl ha, _, _, rfl, rfl, _, rfl, ?_⟩
    rw [List.length_map]
    refine ifB (fun c => ?_) (fun c => ?_)
    · have il : i < cs.length := by
        have := of_decide_eq_true c
        omega
      have c0 : cs[0]? = some (cs[0]'(by omega)) := List.getElem?_eq_getElem (by omega)
      have ci : cs[i]? = some (cs[i]'il) := List.getElem?_eq_getElem il
      have g0 : cs.getD 0 0 = cs[0]'(by omega) := by rw [List.getD_eq_getElem?_getD, c0]; rfl
      refine ⟨_, rfl, _, rfl, _, _, _, _, rfl, rfl, ha, cell_atN il, _, rfl, _, _, _, _, rfl, rfl, ha, cell_atN (i := 0) (by omega), rfl, _, rfl, ?_⟩
      rw [decInt]
      refine ifB (fun d => ?_) (fun d => ?_)
      · refine ⟨fun σ'' H'' => ∃ m', m' < cs.length - i ∧ ∃ i : Nat, m' = cs.length - i ∧ i ≤ cs.length ∧ σ'' = [some (.ref a), some (.int (i : Nat))] ∧ H'' = H' ∧ ∀ x ∈ cs.take i, P x = true, fun _ _ h => h, ?_⟩
        refine ⟨_, rfl, _, _, rfl, rfl, cs.length - (i + 1), by omega, i + 1, rfl, il, rfl, rfl, fun x hx' => ?_⟩
        rw [take_snoc ci] at hx'
        rcases List.mem_append.mp hx' with z | z
        · exact hx x z
        · rw [List.mem_singleton.mp z]
          have d := of_decide_eq_true d
          show decide (cs[i] = cs.getD 0 0) = true
          refine decide_eq_true ?_
          rw [List.getD_eq_getElem?_getD, ci] at d
          exact d
      · have pf : P (cs[i]'il) = false := by
          have d := of_decide_eq_false d
          show decide (cs[i] = cs.getD 0 0) = false
          refine decide_eq_false fun z => d ?_
          rw [List.getD_eq_getElem?_getD, ci]
          exact z
        have e := fin i hi (dw i il hx _ ci pf) trivial
        refine ⟨_, rfl, (by show 0 ≤ sizeLine; decide), fun p2 H2 n2 e2 h2 => ?_⟩
        refine neI_ (Evl.ex_l e2 ha) (ys := []) (sqI h2) ⟨_, rfl, ?_⟩
        have ne : cs ≠ [] := fun z => by rw [z] at il; exact absurd il (Nat.not_lt_zero _)
        refine ifT (by simp [ne]) ?_
        refine ⟨_, rfl, _, _, _, _, rfl, rfl, Evl.ex_l e2 ha, cell_atN (i := 0) (by omega), _, rfl, _, rfl, _, rfl, _, _, rfl, Evl.ex_l e2 ha, fun p3 H3 n3 e3 h3 => ?_⟩
        rw [cut_from, ← List.map_drop] at h3
        refine ⟨_, _, rfl, .inl (sqI h3), rfl, flatI _, ?_⟩
        show Q (.bl (!inV (V.int (cs.getD 0 0)) ((cs.drop i).map V.int))) _
        rw [inV_int]
        rw [decide_eq_true ne, Bool.true_and] at e
        rw [← e]
        exact k H3 (e2.trans e3)
    · have il : i = cs.length := by
        have := of_decide_eq_false c
        omega
      subst il
      have e := fin cs.length (Nat.le_refl _) (by
        rw [List.drop_length]
        rw [List.take_length] at hx
        have : ∀ l : List Int, (∀ x ∈ l, P x = true) → l.dropWhile P = [] := fun l => by
          induction l with
          | nil => intro _; rfl
          | cons x l ih =>
            intro h
            rw [List.dropWhile_cons, h x List.mem_cons_self]
            exact ih fun y hy => h y (List.mem_cons_of_mem _ hy)
        exact this cs hx) trivial
      refine ⟨_, rfl, (by show 0 ≤ sizeLine; decide), fun p2 H2 n2 e2 h2 => ?_⟩
      refine neI_ (Evl.ex_l e2 ha) (ys := []) (sqI h2) ⟨_, rfl, ?_⟩
      by_cases ne : cs = []
      · refine ifF (by simp [ne]) ?_
        rw [e] at k
        have : (decide (cs ≠ []) && !decide (cs.getD 0 0 ∈ cs.drop cs.length)) = false := by simp [ne]
        rw [this] at k
        exact k H2 e2
      · refine ifT (by simp [ne]) ?_
        have lp : 0 < cs.length := List.length_pos_iff.mpr ne
        refine ⟨_, rfl, _, _, _, _, rfl, rfl, Evl.ex_l e2 ha, cell_atN (i := 0) (by omega), _, rfl, _, rfl, _, rfl, _, _, rfl, Evl.ex_l e2 ha, fun p3 H3 n3 e3 h3 => ?_⟩
        rw [cut_from, ← List.map_drop] at h3
        refine ⟨_, _, rfl, .inl (sqI h3), rfl, flatI _, ?_⟩
        show Q (.bl (!inV (V.int (cs.getD 0 0)) ((cs.drop cs.length).map V.int))) _
        rw [inV_int]
        rw [decide_eq_true ne, Bool.true_and] at e
        rw [← e]
        exact k H3 (e2.trans e3)
theorem ok_made_form (T : Txt K mg) : FnOk PR w K mg base CX0 3 T.a_made_form T.d_made_form ["clicks"] (sp_made_form K) := by
  refine T.f_made_form.ok sc_made_form (fun vs H Q E h => ?_) (fun cdv A outer s H vs Q E hr h => ?_)
  · obtain ⟨a, cs, rfl, _⟩ := h
    rfl
  · obtain ⟨a, cs, rfl, ha, hl, h0, k⟩ := h
    refine ⟨_, (pss_one (ps_ret (pe_tupG (pa_cons (pe_call (ok_after_clicks T) (hr.mono (by decide)) (by rfl) T.g_after_clicks T.f_after_clicks.kp (b_after_clicks T) .nil pass0 (pa_cons (pe_lstG pa_nil) (pa_cons (pv 0) pa_nil))) (pa_cons (pe_call (ok_is_left_alone T) (hr.mono (by decide)) (by rfl) T.g_is_left_alone T.f_is_left_alone.kp (b_is_left_alone T) .nil pass0 (pa_cons (pv 0) pa_nil)) pa_nil))))), ?_⟩
    refine ⟨(by show 0 ≤ sizeLine; decide), fun p1 H1 n1 e1 h1 => ?_⟩
    refine ⟨_, rfl, p1, a, [], cs, rfl, ⟨[], h1, AllR.nil⟩, Evl.ex_l e1 ha, by simpa using hl, fun q H2 n2 e2 h2 => ?_⟩
    refine ⟨_, rfl, a, cs, rfl, Evl.ex_l (e1.trans e2) ha, hl, fun H3 e3 => ?_⟩
    refine ⟨(by show 2 ≤ sizeLine; decide), fun p4 H4 n4 e4 h4 => ?_⟩
    exact k _ H4 (e1.trans (e2.trans (e3.trans e4))) ⟨p4, q, rfl, h4, h2.ex (e3.trans e4)⟩
theorem ok_form_of (T : Txt K mg) : FnOk PR w K mg base (L2.CX PR w) 4 T.a_form_of T.d_form_of ["clicks"] (sp_made_form K) := by
  refine T.f_form_of.okX sc_form_of (fun vs H Q E h => ?_) (fun cdv A outer s H vs Q E hr h => ?_)
  · obtain ⟨a, cs, rfl, _⟩ := h
    rfl
  · obtain ⟨a, cs, rfl, ha, hl, h0, k⟩ := h
    refine ⟨_, (pss_cons (ps_for (passes_of rfl) rfl (pi_list (pv 0)) (pg_name (i := 1) sc_form_of.nd rfl (by first | exact Or.inl rfl | exact Or.inr rfl)) (pss_one (ps_if (pt_cmpR op_lt (pv 1) pe_int (nomark _)) (pss_one (ps_raise rfl (takes_of rfl rfl rfl rfl) (pmk_err (ok_init T) (b_init T) T.e_InvalidColumn (hr.mono (by decide)) (by rfl) T.g_InvalidColumn (pa_cons (pv 1) pa_nil)))) pss_nil))) (pss_one (ps_ret (pe_call (ok_made_form T) (hr.mono (by decide)) (by rfl) T.g_made_form T.f_made_form.kp (b_made_form T) .nil pass0 (pa_cons (pv 0) pa_nil))))), ?_⟩
    refine ⟨_, rfl, a, rfl, ⟨_, ha⟩, for_list (K := K) (a := a) (xs := cs.map V.int) (fun i σ H' => ∃ v, σ = [some (.ref a), v] ∧ H' = H) ⟨_, rfl, rfl⟩ (fun i σ H' _ ⟨_, _, e⟩ => e ▸ ha) ?_ ?_⟩
    · rintro i x σ H' hi ⟨v, rfl, rfl⟩
      obtain ⟨t, ht, rfl⟩ := mapI_get hi
      have := h0 t (List.mem_of_getElem? ht)
      exact ⟨_, rfl, _, _, rfl, rfl, _, rfl, ifF (decide_eq_false (by omega)) ⟨_, rfl, rfl⟩⟩
    · rintro σ H' ⟨v, rfl, rfl⟩
      exact ⟨_, rfl, a, cs, rfl, ha, hl, h0, k⟩
theorem ok_made_of (T : Txt K mg) : FnOk PR w K mg base CX0 2 T.a_made_of T.d_made_of ["form", "sorting"] (sp_made_of K) := by
  refine T.f_made_of.ok sc_made_of (fun vs H Q E h => ?_) (fun cdv A outer s H vs Q E hr h => ?_)
  · obtain ⟨v, p, f, s, rfl, _⟩ := h
    rfl
  · obtain ⟨v, p, ⟨ks, b⟩, s, rfl, ⟨fp, q, rfl, hfp, hq⟩, hp, hl, hs, hb, k⟩ := h
    refine ⟨_, (pss_cons (ps_asg (pv 0) (pg_tup rfl (pgs_cons (pg_name (i := 2) sc_made_of.nd rfl (by first | exact Or.inl rfl | exact Or.inr rfl)) (pgs_cons (pg_name (i := 3) sc_made_of.nd rfl (by first | exact Or.inl rfl | exact Or.inr rfl)) pgs_nil)))) (pss_cons (ps_setLc (i := 4) (own := [("key", 5)]) (g := gName 5) (by rfl) sc_made_of.nd rfl rfl (sw_true rfl rfl rfl (by decide +kernel)) (pi_list (pv 1)) (blkOk_by (own := [("key", 5)]) (N := ["form", "sorting", "keys", "bound", "rest", "key"]) (sc := (defScope s_made_of)) (by decide +kernel)) (fun _ _ _ _ _ => (pg_name (i := 5) sc_made_of.nd rfl (by first | exact Or.inl rfl | exact Or.inr rfl))) (fun _ _ _ _ _ => (pts_one (pt_cmpR (opK (r := fun K => rIn K true) (K := K) (by rfl) op_notIn_seq) (pe_ix (ixK (r := rIxT) (K := K) (by rfl) ix_tup) (pv 5) pe_int (fun _ _ => rfl)) (pe_call (ok_columns_of T) (hr.mono (by decide)) (by rfl) T.g_columns_of T.f_columns_of.kp (b_columns_of T) .nil pass0 (pa_cons (pv 2) pa_nil)) (by rfl)))) (fun _ _ _ _ _ => (pv 5))) (pss_cons (ps_if (PW.pt (pw_and (pt_val (pv 3)) (pw_and (pt_cmpR (op_neD hr.units) (pv 1) (pe_lstG pa_nil) (nomark _)) (pw_and1 (pt_cmpR (op_eqD hr.units) (pe_ix ix_list (pv 1) pe_int (fun _ _ => rfl)) (pe_tupG (pa_cons (pe_ix ix_tup (pe_ix ix_list (pv 2) (pe_un un_neg pe_int) (fun _ _ => rfl)) pe_int (fun _ _ => rfl)) (pa_cons pe_int pa_nil))) (nomark _)))))) (pss_one (ps_ret (pe_op op_catG (pe_op op_catG (pe_slice sl_listG (pv 2) po_none (po_some (pe_un un_neg pe_int))) (pe_lstG (pa_cons (pe_tupG (pa_cons (pe_ix ix_tup (pe_ix ix_list (pv 2) (pe_un un_neg pe_int) (fun _ _ => rfl)) pe_int (fun _ _ => rfl)) (pa_cons (pe_un un_neg (pe_ix ix_tup (pe_ix ix_list (pv 2) (pe_un un_neg pe_int) (fun _ _ => rfl)) pe_int (fun _ _ => rfl))) pa_nil))) pa_nil))) (pv 4)))) pss_nil) (pss_one (ps_ret (pe_op op_catG (pv 2) (pv 4))))))), ?_⟩
    obtain ⟨uk, hu, hk⟩ := id hq
    obtain ⟨us, hus, hks⟩ := id hp
    have ukl := hk.1
    have usl := hks.1
    have hb : b = true → ks ≠ [] := hb
    refine ⟨_, rfl, _, _, rfl, sqT hfp, rfl, _, _, rfl, _, _, rfl, rfl, ?_⟩
    refine ⟨_, rfl, p, rfl, ⟨_, sqI hus⟩, fun R hR => lc_filtO (K := K) (a := p) (R := KyR K H) (ys := s) (p := fun k => !decide (k.1 ∈ cols ks)) (sqI hus) hks hR (by omega) (fun x => rfl) ?_ ?_ ?_⟩
    · rintro v y H' hy ⟨qy, rfl, hqy⟩ e' Z kZ
      refine ⟨_, rfl, _, _, _, _, rfl, rfl, Evl.ex_t e' hqy, at0, _, rfl, q, ks, rfl, hq.ex e', hl, fun p2 H2 n2 e2 h2 => ?_⟩
      refine ⟨_, _, rfl, .inl (sqI h2), rfl, flatI _, _, rfl, ?_⟩
      show Z (!inV (V.int y.1) ((cols ks).map V.int)) _
      rw [inV_int]
      exact kZ H2 e2
    · intro v H' N kN
      exact ⟨_, rfl, kN⟩
    intro H1 ur e1 r1 a1
    have a1 : KsAt K H1 ur (restL ks s) := AllR.mono a1 fun v x r => r.ex e1
    have rl := a1.1
    have rll := restL_len ks s
    have plain : hit (ks, b) s = false → ∀ {H2 : Hp}, Ex H1 H2 → ∀ p2, H2 p2 = none → ∀ H3, Ex H2 H3 → H3 p2 = some (.lst (uk ++ ur)) → Q (.ref p2) H3 := fun hh H2 e2 p2 n2 H3 e3 h3 => by
      have : madeOf (ks, b) s = ks ++ restL ks s := by
        unfold madeOf fl
        rw [hh]
        rfl
      rw [this] at k
      exact k p2 H3 (none_of (e1.trans e2) n2) (e1.trans (e2.trans e3)) ⟨_, h3, (hk.ex (e1.trans (e2.trans e3))).append (a1.ex (e2.trans e3))⟩
    have go : hit (ks, b) s = false → ∀ {H2 : Hp}, Ex H1 H2 → (H2 q = some (.lst uk) ∧ H2 R = some (.lst ur) ∧ uk.length + ur.length ≤ sizeLine) := fun _ H2 e2 => ⟨(e1.trans e2) _ _ hu, e2 _ _ r1, Nat.le_trans (show _ ≤ 1000 by omega) (by decide)⟩
    have hitE : hit (ks, b) s = (b && decide (s.head? = some (lastC ks, 1))) := rfl
    refine ⟨_, rfl, _, rfl, ?_⟩
    cases b with
    | false =>
      have hh : hit (ks, false) s = false := rfl
      obtain ⟨g1, g2, g3⟩ := go hh (Evl.Ex.refl H1)
      refine iteF ?_
      exact ⟨_, rfl, _, rfl, _, _, _, _, rfl, rfl, g1, g2, g3, fun p2 H2 n2 e2 h2 => plain hh (Evl.Ex.refl _) p2 n2 H2 e2 h2⟩
    | true =>
      refine iteT ?_
      rw [Bool.true_and] at hitE
      refine ⟨_, rfl, (by show 0 ≤ sizeLine; decide), fun p2 H2 n2 e2 h2 => ?_⟩
      refine neE (goodL goodK) (by decide) (x := s) (y := []) (hp.ex (e1.trans e2)).dp (nilD h2) ⟨_, rfl, ?_⟩
      refine ifB (fun c => ?_) (fun c => ?_)
      · have sne : s ≠ [] := by simpa using c
        have kne := hb rfl
        obtain ⟨k0, r, rfl⟩ := optHead sne
        obtain ⟨u0, ut, rfl⟩ : ∃ u0 t, us = u0 :: t := by
          cases us with
          | nil => cases usl
          | cons u t => exact ⟨u, t, rfl⟩
        obtain ⟨q0, e0, hq0⟩ := hks.2 0 u0 k0 rfl rfl
        subst e0
        have e02 := e1.trans e2
        obtain ⟨ql, l, kl, el, al, hql⟩ := lastV (hk.ex e02) kne
        have el : ks = l ++ [kl] := el
        have lc : lastC ks = kl.1 := by rw [el, last_snoc]
        refine ⟨_, rfl, _, _, _, _, rfl, rfl, sqI (e02 _ _ hus), at0, _, rfl, _, rfl, _, _, _, _, rfl, rfl, sqI (e02 _ _ hu), al, _, _, _, _, rfl, rfl, hql, at0, (by show 2 ≤ sizeLine; decide), fun p3 H3 n3 e3 h3 => ?_⟩
        have dq : Dp K H3 (.ref q0) (eK k0) := .tup (Evl.ex_t (e02.trans e3) hq0) (.cons (.int _) (.cons (.int _) .nil))
        have dp : Dp K H3 (.ref p3) (eK (kl.1, 1)) := .tup (sqT h3) (.cons (.int _) (.cons (.int _) .nil))
        refine eqE goodK (by decide) dq dp ⟨_, rfl, ?_⟩
        have e13 := e2.trans e3
        have e03 := e1.trans e13
        have hh : hit (ks, true) (k0 :: r) = decide (k0 = (kl.1, 1)) := by
          rw [hitE, lc]
          show decide (some k0 = some (kl.1, 1)) = _
          rw [decide_eq_decide, Option.some.injEq]
        refine ifB (fun d => ?_) (fun d => ?_)
        · have hh : hit (ks, true) (k0 :: r) = true := hh.trans d
          refine ⟨_, rfl, _, rfl, _, rfl, _, _, rfl, sqI (e03 _ _ hu), fun p4 H4 n4 e4 h4 => ?_⟩
          have cu : cutV uk none (some (-1)) = uk.take l.length := cut_last _ _ (by rw [ukl, el, List.length_append]; rfl)
          rw [cu] at h4
          have e04 := e03.trans e4
          refine ⟨_, rfl, _, rfl, _, _, _, _, rfl, rfl, sqI (e04 _ _ hu), al, _, _, _, _, rfl, rfl, Evl.ex_t (e3.trans e4) hql, at0, _, rfl, _, rfl, _, _, _, _, rfl, rfl, sqI (e04 _ _ hu), al, _, _, _, _, rfl, rfl, Evl.ex_t (e3.trans e4) hql, at1, _, rfl, (by show 2 ≤ sizeLine; decide), fun p5 H5 n5 e5 h5 => ?_⟩
          refine ⟨(by show 1 ≤ sizeLine; decide), fun p6 H6 n6 e6 h6 => ?_⟩
          refine ⟨_, _, _, _, rfl, rfl, (e5.trans e6) _ _ h4, h6, ?_, fun p7 H7 n7 e7 h7 => ?_⟩
          · rw [List.length_take]
            exact Nat.le_trans (show _ ≤ 501 by show min _ _ + 1 ≤ 501; omega) (by decide)
          have e17 := e13.trans (e4.trans (e5.trans (e6.trans e7)))
          refine ⟨_, rfl, _, _, _, _, rfl, rfl, h7, e17 _ _ r1, ?_, fun p8 H8 n8 e8 h8 => ?_⟩
          · rw [List.length_append, List.length_take]
            exact Nat.le_trans (show _ ≤ 1001 by show min _ _ + 1 + _ ≤ 1001; omega) (by decide)
          have e08 := e1.trans (e17.trans e8)
          refine k p8 H8 (none_of (e1.trans e17) n8) e08 ⟨_, h8, ?_⟩
          have em : madeOf (ks, true) (k0 :: r) = l ++ [(kl.1, -kl.2)] ++ restL ks (k0 :: r) := by
            unfold madeOf fl
            rw [hh, if_pos rfl]
            show flipL ks ++ _ = _
            rw [el, flip_snoc]
          rw [em]
          have t1 : KsAt K H8 (uk.take l.length) l := by
            have := (hk.ex e08).take l.length
            have tl : ks.take l.length = l := by rw [el]; simp
            rw [tl] at this
            exact this
          have t2 : KsAt K H8 [.ref p5] [(kl.1, -kl.2)] := AllR.one ⟨p5, rfl, sqT ((e6.trans (e7.trans e8)) _ _ h5)⟩
          exact (t1.append t2).append (a1.ex (e17.trans e8))
        · have hh : hit (ks, true) (k0 :: r) = false := hh.trans d
          obtain ⟨g1, g2, g3⟩ := go hh e13
          exact ⟨_, rfl, _, rfl, _, _, _, _, rfl, rfl, g1, g2, g3, fun p4 H4 n4 e4 h4 => plain hh e13 p4 n4 H4 e4 h4⟩
      · have e : s = [] := by simpa using c
        have hh : hit (ks, true) s = false := by rw [hitE, e]; simp
        obtain ⟨g1, g2, g3⟩ := go hh e2
        exact ⟨_, rfl, _, rfl, _, _, _, _, rfl, rfl, g1, g2, g3, fun p4 H4 n4 e4 h4 => plain hh e2 p4 n4 H4 e4 h4⟩
theorem ok_formed (T : Txt K mg) : FnOk PR w K mg base (L2.CX PR w) 4 T.a_formed T.d_formed ["form", "sorting"] (sp_formed K) := by
  refine T.f_formed.okX sc_formed (fun vs H Q E h => ?_) (fun cdv A outer s H vs Q E hr h => ?_)
  · obtain ⟨v, p, f, s, rfl, _⟩ := h
    rfl
  · obtain ⟨v, p, f, s, rfl, hf, hp, hl, hs, h1, h2, hb, k⟩ := h
    refine ⟨_, (pss_cons (ps_expr (pe_call (ok_need_form T) (hr.mono (by decide)) (by rfl) T.g_need_form T.f_need_form.kp (b_need_form T) .nil passX (pa_cons (pv 0) pa_nil))) (pss_cons (ps_expr (pe_call (ok_need_keys T) (hr.mono (by decide)) (by rfl) T.g_need_keys T.f_need_keys.kp (b_need_keys T) .nil passX (pa_cons (pv 1) pa_nil))) (pss_one (ps_ret (pe_call (ok_made_of T) (hr.mono (by decide)) (by rfl) T.g_made_of T.f_made_of.kp (b_made_of T) .nil pass0 (pa_cons (pv 0) (pa_cons (pv 1) pa_nil))))))), ?_⟩
    refine ⟨_, rfl, v, f, rfl, hf.q, hl, h1, fun H1 e1 => ?_⟩
    refine ⟨_, rfl, p, s, rfl, (hp.ex e1).q, hs, h2, fun H2 e2 => ?_⟩
    have e02 := e1.trans e2
    exact ⟨_, rfl, _, rfl, v, p, f, s, rfl, hf.ex e02, hp.ex e02, hl, hs, hb, fun q H3 n3 e3 h3 => k q H3 (none_of e02 n3) (e02.trans e3) h3⟩
end
end K10
set_option Elab.async false
set_option pp.maxSteps 1200
set_option linter.all false
set_option maxRecDepth 100000
set_option maxHeartbeats 4000000
namespace K10
open PySem L2 My
/-! ### the deck: so many draws are mixed at most -/
def Deck (H : Hp) (j : Addr) (n : Int) : Prop := ∃ x y z : Int, H j = some (.lst [.int x, .int y, .int z]) ∧ 0 ≤ y ∧ y < 2 ^ 140 ∧ 0 ≤ z ∧ z ≤ n
theorem Deck.ex {H H' : Hp} {j : Addr} {n : Int} (e : Ex H H') : Deck H j n → Deck H' j n
  | ⟨x, y, z, h, r⟩ => ⟨x, y, z, e _ _ h, r⟩
theorem Deck.mono {H : Hp} {j : Addr} {n m : Int} (l : n ≤ m) : Deck H j n → Deck H j m
  | ⟨x, y, z, h, a, b, c, d⟩ => ⟨x, y, z, h, a, b, c, by omega⟩
theorem Deck.at {H : Hp} {j : Addr} {n : Int} (h : Deck H j n) : ∃ ys, H j = some (.lst ys) := let ⟨_, _, _, h, _⟩ := h; ⟨_, h⟩
theorem Deck.ne {H : Hp} {j p : Addr} {n : Int} (h : Deck H j n) (e : H p = none) : p ≠ j := by
  obtain ⟨ys, ho⟩ := h.at
  exact (ne_of_none ho e).symm
theorem Deck.upd {H : Hp} {j p : Addr} {o : HO} {n : Int} (ne : p ≠ j) : Deck H j n → Deck (L2.upd H p o) j n
  | ⟨x, y, z, h, r⟩ => ⟨x, y, z, by rw [upd_ne ne.symm]; exact h, r⟩
theorem _root_.My.Exj.back {j p : Addr} {H H' : Hp} (e : Exj j H H') (n : p ≠ j) (h : H' p = none) : H p = none := by
  cases q : H p with
  | none => rfl
  | some o =>
    rw [e p o n q] at h
    cases h
def Many (w : Int) (cs : List Int) : Prop := ∀ c ∈ cs, 0 ≤ c ∧ c < w
def sp__law_open (K : PySem.W.Frag) : Sp := fun vs H Q _ => ∃ (a : Addr) (ns : List Int) (k : Int), vs = [.ref a, .int k] ∧ SqL K H a (ns.map V.int) ∧ 0 ≤ k ∧ k ≤ 100 ∧ ∀ (p : Addr) (H' : Hp), H p = none → Ex H H' → Deck H' p 0 → Q (.ref p) H'
def sp__law_draw : Sp := fun vs H Q _ => ∃ (j : Addr) (many n : Int), vs = [.ref j, .int many] ∧ Deck H j n ∧ n ≤ 1000000 ∧ 0 < many ∧ many < 2 ^ 200 ∧ ∀ (d : Int) (H' : Hp), 0 ≤ d → d < many → Exj j H H' → Deck H' j (n + 1) → Q (.int d) H'
def sp__law_clicks : Sp := fun vs H Q _ => ∃ (j : Addr) (w most n : Int), vs = [.ref j, .int w, .int most] ∧ Deck H j n ∧ n ≤ 900000 ∧ 1 ≤ w ∧ w ≤ 100 ∧ 0 ≤ most ∧ most ≤ 60 ∧
  ∀ (p : Addr) (cs : List Int) (H' : Hp), H p = none → p ≠ j → Exj j H H' → Deck H' j (n + 200) → H' p = some (.lst (cs.map V.int)) → (cs.length : Int) ≤ most → Many w cs → Q (.ref p) H'
def sp__law_keys (K : PySem.W.Frag) : Sp := fun vs H Q _ => ∃ (j : Addr) (w : Nat) (n : Int), vs = [.ref j, .int (w : Nat)] ∧ Deck H j n ∧ n ≤ 900000 ∧ w ≤ 5 ∧
  ∀ (p : Addr) (ks : List Ky) (H' : Hp), H p = none → p ≠ j → Exj j H H' → Deck H' j (n + 20) → LsK K H' p ks → ks.length ≤ w → Vd ks → Many w (cols ks) → Q (.ref p) H'
theorem at2' {α : Type} {a b c : α} {l : List α} : atI (a :: b :: c :: l) 2 = some c := atI_nat (j := 2) rfl
theorem rgo (n : Nat) (h : n ≤ 1000) : RgOk 0 (n : Int) := RgOk.of_le (by omega) (by omega) (by omega) (by omega)
theorem erase_perm {α : Type} : ∀ {ls : List α} {k : Nat} {y : α}, ls[k]? = some y → (y :: ls.eraseIdx k).Perm ls
  | a :: ls, 0, y, h => by
    cases h
    exact List.Perm.refl _
  | a :: ls, k + 1, y, h => by
    have ih := erase_perm (ls := ls) (k := k) (y := y) h
    show (y :: a :: ls.eraseIdx k).Perm (a :: ls)
    exact (List.Perm.swap a y _).trans (ih.cons a)
theorem map_erase {α β : Type} (f : α → β) : ∀ (l : List α) (k : Nat), (l.map f).eraseIdx k = (l.eraseIdx k).map f
  | [], _ => rfl
  | _ :: _, 0 => rfl
  | a :: l, k + 1 => by
    show f a :: (l.map f).eraseIdx k = f a :: (l.eraseIdx k).map f
    rw [map_erase f l k]
section
variable {w : World} {K : PySem.W.Frag} {mg : Str → Option Value} {base : Heap}
theorem ok__law_open (T : Txt K mg) : FnOk PR w K mg base CX0 1 T.a__law_open T.d__law_open ["_law_script", "_law_k"] (sp__law_open K) := by
  refine T.f__law_open.ok sc__law_open (fun vs H Q E h => ?_) (fun cdv A outer s H vs Q E hr h => ?_)
  · obtain ⟨a, ns, k, rfl, _⟩ := h
    rfl
  · obtain ⟨a, ns, n, rfl, hs, n0, n1, k⟩ := h
    refine ⟨_, (pss_cons (ps_set (i := 2) sc__law_open.nd rfl (by first | exact Or.inl rfl | exact Or.inr rfl) pe_int) (pss_cons (ps_cut (ps_if (pt_cmpR op_lt (pv 1) (pe_callB call_len_seq (by rfl) T.z_len PySem.boot_len (pa_cons (pv 0) pa_nil)) (nomark _)) (pss_one (ps_set (i := 2) sc__law_open.nd rfl (by first | exact Or.inl rfl | exact Or.inr rfl) (pe_ix ix_list (pv 0) (pv 1) (fun _ _ => rfl)))) pss_nil)) (pss_cons (ps_set (i := 3) sc__law_open.nd rfl (by first | exact Or.inl rfl | exact Or.inr rfl) (pe_op op_add (pe_op op_add (pe_op op_mod (pe_callTy call_int1 (by rfl) T.z_int (by decide +kernel) (pa_cons (pe_op op_add (pe_op op_mul pe_int (pe_callB call_abs (by rfl) T.z_abs (by decide +kernel) (pa_cons (pv 2) pa_nil))) (pe_callTy call_int1 (by rfl) T.z_int (by decide +kernel) (pa_cons (pe_cmpR op_lt (pv 2) pe_int (nomark _)) pa_nil))) pa_nil)) (pe_op op_add (pe_op op_powW pe_int pe_int) pe_int)) (pe_op op_mul pe_int (pv 1))) pe_int)) (pss_one (ps_ret (pe_lstG (pa_cons (pe_callB (call_max2 rfl) (by rfl) T.z_max (by decide +kernel) (pa_cons pe_int (pa_cons (pe_op op_sub (pv 2) (pe_op op_powW pe_int pe_int)) pa_nil))) (pa_cons (pv 3) (pa_cons pe_int pa_nil))))))))), ?_⟩
    refine ⟨fun σ H' => H' = H ∧ ∃ c : Int, σ = [some (.ref a), some (.int n), some (.int c), none], ?_, ?_⟩
    · refine ⟨_, rfl, _, rfl, _, _, rfl, .inl hs, _, _, rfl, rfl, _, rfl, ?_⟩
      refine ifB (fun c => ?_) (fun c => ⟨rfl, _, rfl⟩)
      have c' : n < ((ns.map V.int).length : Int) := of_decide_eq_true c
      rw [List.length_map] at c'
      have hx : ns[n.toNat]? = some (ns[n.toNat]'(by omega)) := List.getElem?_eq_getElem (by omega)
      exact ⟨_, rfl, _, rfl, _, _, _, _, rfl, rfl, hs, at_of (j := n.toNat) (by omega) (by rw [List.getElem?_map, hx]; rfl), rfl, _, rfl⟩
    · rintro σ H' ⟨rfl, c, rfl⟩
      refine ⟨_, rfl, _, rfl, _, _, rfl, rfl, .inl ⟨by omega, by omega⟩, _, rfl, _, _, rfl, rfl, .inr ⟨_, rfl, ?_⟩⟩
      refine ⟨_, _, rfl, rfl, .inl ⟨_, rfl, ?_⟩⟩
      have ep : (10 : Int) ^ (39 : Int).toNat = 1000000000000000000000000000000000000000 := by decide +kernel
      refine ⟨_, _, rfl, rfl, (show CPowW 10 39 by constructor <;> decide +kernel), _, _, rfl, rfl, _, _, rfl, rfl, (show (0 : Int) < 10 ^ (39 : Int).toNat + 3 by decide +kernel), _, rfl, _, _, rfl, rfl, .inl ⟨by omega, by omega⟩, _, _, rfl, rfl, _, _, rfl, rfl, ?_⟩
      refine ⟨_, rfl, _, _, rfl, rfl, (show CPowW 10 18 by constructor <;> decide +kernel), _, _, rfl, rfl, _, _, rfl, _, rfl, (by show 3 ≤ sizeLine; decide), fun p1 H1 n1 e1 h1 => ?_⟩
      refine k p1 H1 n1 e1 ⟨_, _, _, h1, ?_, ?_, Int.le_refl _, Int.le_refl _⟩
      · rw [ep]
        have := Int.emod_nonneg (2 * (if c < 0 then -c else c) + (if decide (c < 0) = true then 1 else 0)) (show (1000000000000000000000000000000000000000 + 3 : Int) ≠ 0 by decide)
        omega
      · rw [ep]
        have := Int.emod_lt_of_pos (2 * (if c < 0 then -c else c) + (if decide (c < 0) = true then 1 else 0)) (show (0 : Int) < 1000000000000000000000000000000000000000 + 3 by decide)
        omega
theorem ok__law_draw (T : Txt K mg) : FnOk PR w K mg base CX0 1 T.a__law_draw T.d__law_draw ["_law_deck", "_law_many"] sp__law_draw := by
  refine T.f__law_draw.ok sc__law_draw (fun vs H Q E h => ?_) (fun cdv A outer s H vs Q E hr h => ?_)
  · obtain ⟨j, many, n, rfl, _⟩ := h
    rfl
  · obtain ⟨j, many, n, rfl, ⟨x, y, z, hj, y0, y1, z0, z1⟩, hn, m0, m1, k⟩ := h
    refine ⟨_, (pss_cons (ps_if (pt_cmpR op_gt (pe_ix ix_list (pv 0) pe_int (fun _ _ => rfl)) pe_int (nomark _)) (pss_cons (ps_set (i := 2) sc__law_draw.nd rfl (by first | exact Or.inl rfl | exact Or.inr rfl) (pe_op op_mod (pe_callTy call_int1 (by rfl) T.z_int (by decide +kernel) (pa_cons (pe_ix ix_list (pv 0) pe_int (fun _ _ => rfl)) pa_nil)) (pv 1))) (pss_cons (ps_asg (pe_op op_fdivW (pe_ix ix_list (pv 0) pe_int (fun _ _ => rfl)) (pv 1)) (pg_sub (pv 0) pe_int set_list)) (pss_one (ps_ret (pv 2))))) pss_nil) (pss_cons (ps_asg (pe_op op_add (pe_ix ix_list (pv 0) pe_int (fun _ _ => rfl)) pe_int) (pg_sub (pv 0) pe_int set_list)) (pss_cons (ps_set (i := 3) sc__law_draw.nd rfl (by first | exact Or.inl rfl | exact Or.inr rfl) (pe_op op_mod (pe_callTy call_int1 (by rfl) T.z_int (by decide +kernel) (pa_cons (pe_op op_add (pe_op op_mul (pe_ix ix_list (pv 0) pe_int (fun _ _ => rfl)) (pe_op op_add pe_int (pe_op op_mul pe_int (pe_ix ix_list (pv 0) pe_int (fun _ _ => rfl))))) (pe_op op_mul (pe_op op_mul pe_int (pe_ix ix_list (pv 0) pe_int (fun _ _ => rfl))) (pe_ix ix_list (pv 0) pe_int (fun _ _ => rfl)))) pa_nil)) pe_int)) (pss_cons (ps_set (i := 3) sc__law_draw.nd rfl (by first | exact Or.inl rfl | exact Or.inr rfl) (pe_op op_mod (pe_callTy call_int1 (by rfl) T.z_int (by decide +kernel) (pa_cons (pe_op op_add (pe_op op_add (pe_op op_mul (pv 3) (pv 3)) (pe_op op_mul pe_int (pe_ix ix_list (pv 0) pe_int (fun _ _ => rfl)))) (pe_ix ix_list (pv 0) pe_int (fun _ _ => rfl))) pa_nil)) pe_int)) (pss_cons (ps_set (i := 3) sc__law_draw.nd rfl (by first | exact Or.inl rfl | exact Or.inr rfl) (pe_op op_mod (pe_callTy call_int1 (by rfl) T.z_int (by decide +kernel) (pa_cons (pe_op op_add (pe_op op_mul (pe_op op_mul (pv 3) (pv 3)) (pv 3)) (pe_op op_mul pe_int (pe_ix ix_list (pv 0) pe_int (fun _ _ => rfl)))) pa_nil)) pe_int)) (pss_one (ps_ret (pe_op op_mod (pe_callTy call_int1 (by rfl) T.z_int (by decide +kernel) (pa_cons (pe_op op_fdivW (pv 3) pe_int) pa_nil)) (pv 1))))))))), ?_⟩
    have sq : ∀ {H' : Hp} {l : List V}, H' j = some (.lst l) → SqL K H' j l := fun h => sqI h
    have m2 : many.natAbs < 2 ^ 200 := by omega
    refine ⟨_, rfl, _, _, _, _, rfl, rfl, sq hj, at0, _, _, rfl, rfl, _, rfl, ?_⟩
    refine ite2 (fun c => ?_) (fun c => ?_)
    · refine ⟨_, rfl, _, _, _, _, rfl, rfl, sq hj, at0, .inl ⟨_, rfl, ?_⟩⟩
      refine ⟨_, rfl, _, _, rfl, rfl, m0, ?_⟩
      refine ⟨_, rfl, _, _, _, _, rfl, rfl, sq hj, at0, _, rfl, _, _, rfl, rfl, wide_div m0 m2 (by decide) (by decide), _, rfl, _, _, _, _, rfl, rfl, hj, (show _ = some 0 from rfl), ?_⟩
      refine ⟨_, rfl, ?_⟩
      exact k _ _ (Int.emod_nonneg _ (by omega)) (Int.emod_lt_of_pos _ m0) (Exj.refl _ _).upd ⟨_, y, z, upd_same, y0, y1, z0, by omega⟩
    · refine ⟨_, rfl, _, _, _, _, rfl, rfl, sq hj, at2', _, _, rfl, rfl, _, rfl, _, _, _, _, rfl, rfl, hj, (show _ = some 2 from rfl), ?_⟩
      have hj1 : upd H j (.lst ([V.int x, .int y, .int z].set 2 (.int (z + 1)))) j = some (.lst [.int x, .int y, .int (z + 1)]) := upd_same
      have ej : Exj j H (upd H j (.lst ([V.int x, .int y, .int z].set 2 (.int (z + 1))))) := (Exj.refl _ _).upd
      generalize upd H j (.lst ([V.int x, .int y, .int z].set 2 (.int (z + 1)))) = H1 at hj1 ej ⊢
      refine ⟨_, rfl, _, _, _, _, rfl, rfl, sq hj1, at1, _, rfl, _, _, _, _, rfl, rfl, sq hj1, at2', _, _, rfl, rfl, .inl ⟨by decide, by decide⟩, _, _, rfl, rfl, _, _, rfl, rfl, .inr ⟨by omega, by omega⟩, _, rfl, _, _, _, _, rfl, rfl, sq hj1, at2', _, _, rfl, rfl, .inl ⟨by decide, by decide⟩, _, rfl, _, _, _, _, rfl, rfl, sq hj1, at2', _, _, rfl, rfl, .inl ⟨by omega, by omega⟩, _, _, rfl, rfl, .inl ⟨_, rfl, ?_⟩⟩
      refine ⟨_, _, rfl, rfl, (show (0 : Int) < 1000000000000000003 by decide), ?_⟩
      have b1 : ∀ {u v : Int}, CMul (v % 1000000000000000003) u := fun {u v} => .inl ⟨by omega, by omega⟩
      refine ⟨_, rfl, _, rfl, _, _, rfl, rfl, b1, _, rfl, _, _, _, _, rfl, rfl, sq hj1, at2', _, _, rfl, rfl, .inl ⟨by decide, by decide⟩, _, _, rfl, rfl, _, rfl, _, _, _, _, rfl, rfl, sq hj1, at1, _, _, rfl, rfl, .inl ⟨_, rfl, ?_⟩⟩
      refine ⟨_, _, rfl, rfl, (show (0 : Int) < 2305843009213693951 by decide), ?_⟩
      have b2 : ∀ {u v : Int}, CMul (v % 2305843009213693951) u := fun {u v} => .inl ⟨by omega, by omega⟩
      have b3 : ∀ {u v : Int}, CMul u (v % 2305843009213693951) := fun {u v} => .inr ⟨by omega, by omega⟩
      refine ⟨_, rfl, _, rfl, _, _, rfl, rfl, b2, _, rfl, _, _, rfl, rfl, b3, _, rfl, _, _, _, _, rfl, rfl, sq hj1, at2', _, _, rfl, rfl, .inl ⟨by decide, by decide⟩, _, _, rfl, rfl, .inl ⟨_, rfl, ?_⟩⟩
      refine ⟨_, _, rfl, rfl, (show (0 : Int) < 1000000000000000009 by decide), ?_⟩
      refine ⟨_, rfl, _, _, rfl, rfl, wide_div (b := 20) (by decide) (by decide) (by decide) (by decide), .inl ⟨_, rfl, ?_⟩⟩
      refine ⟨_, rfl, _, _, rfl, rfl, m0, ?_⟩
      exact k _ _ (Int.emod_nonneg _ (by omega)) (Int.emod_lt_of_pos _ m0) ej ⟨x, y, z + 1, hj1, y0, y1, by omega, by omega⟩
theorem ok__law_clicks (T : Txt K mg) : FnOk PR w K mg base CX0 2 T.a__law_clicks T.d__law_clicks ["_law_deck", "_law_width", "_law_most"] sp__law_clicks := by
  refine T.f__law_clicks.ok sc__law_clicks (fun vs H Q E h => ?_) (fun cdv A outer s H vs Q E hr h => ?_)
  · obtain ⟨j, w, most, n, rfl, _⟩ := h
    rfl
  · obtain ⟨j, w, most, n, rfl, hj, hn, w0, w1, m0, m1, k⟩ := h
    refine ⟨_, (pss_cons (ps_set (i := 3) sc__law_clicks.nd rfl (by first | exact Or.inl rfl | exact Or.inr rfl) (pe_lstG pa_nil)) (pss_cons (ps_for PassesOwn.never rfl (pi_range1 (by rfl) T.z_range (pa_cons (pe_call (ok__law_draw T) (hr.mono (by decide)) (by rfl) T.g__law_draw T.f__law_draw.kp (b__law_draw T) .nil pass0 (pa_cons (pv 0) (pa_cons (pe_op op_add (pv 2) pe_int) pa_nil))) pa_nil)) (pg_name (i := 4) sc__law_clicks.nd rfl (by first | exact Or.inl rfl | exact Or.inr rfl)) (pss_cons (ps_set (i := 5) sc__law_clicks.nd rfl (by first | exact Or.inl rfl | exact Or.inr rfl) (pe_call (ok__law_draw T) (hr.mono (by decide)) (by rfl) T.g__law_draw T.f__law_draw.kp (b__law_draw T) .nil pass0 (pa_cons (pv 0) (pa_cons (pv 1) pa_nil)))) (pss_cons (ps_cut (ps_if (PW.pt (pw_and (pt_cmpR (op_neD hr.units) (pv 3) (pe_lstG pa_nil) (nomark _)) (pw_and1 (pt_cmpR op_eq (pe_call (ok__law_draw T) (hr.mono (by decide)) (by rfl) T.g__law_draw T.f__law_draw.kp (b__law_draw T) .nil pass0 (pa_cons (pv 0) (pa_cons pe_int pa_nil))) pe_int (nomark _))))) (pss_one (ps_set (i := 5) sc__law_clicks.nd rfl (by first | exact Or.inl rfl | exact Or.inr rfl) (pe_ix ix_list (pv 3) (pe_un un_neg pe_int) (fun _ _ => rfl)))) pss_nil)) (pss_one (ps_expr (pe_bm PySem.F.plainAttrs_list PySem.F.slot_list_append PySem.F.type_list_append mt_append (pv 3) (pa_cons (pv 5) pa_nil))))))) (pss_one (ps_ret (pv 3))))), ?_⟩
    refine ⟨(by show 0 ≤ sizeLine; decide), fun F H1 nF e1 hF => ?_⟩
    have nFj := hj.ne nF
    refine ⟨_, rfl, _, rfl, _, _, rfl, rfl, j, _, n, rfl, hj.ex e1, by omega, by omega, by omega, fun d H2 d0 d1 e2 j2 => ?_⟩
    refine ⟨_, rfl, by omega, by omega, for_range (lo := 0) (n := d.toNat) (fun i σ H' => ∃ (v4 v5 : Option V) (cs : List Int), σ = [some (.ref j), some (.int w), some (.int most), some (.ref F), v4, v5] ∧ Exj j H H' ∧ Deck H' j (n + 1 + 2 * i) ∧ H' F = some (.lst (cs.map V.int)) ∧ cs.length = i ∧ Many w cs) ⟨_, _, [], rfl, (Exj.of e1).trans e2, j2.mono (by omega), e2 _ _ nFj hF, rfl, fun c hc => by cases hc⟩ ?_ ?_⟩
    · rintro i σ H3 hi ⟨v4, v5, cs, rfl, e3, j3, f3, cl, mc⟩
      refine ⟨_, rfl, _, rfl, j, _, _, rfl, j3, by omega, by omega, by omega, fun c H4 c0 c1 e4 j4 => ?_⟩
      have f4 := e4 _ _ nFj f3
      refine ⟨fun σ' H' => ∃ (c' : Int), σ' = [some (.ref j), some (.int w), some (.int most), some (.ref F), some (.int (0 + (i : Int))), some (.int c')] ∧ 0 ≤ c' ∧ c' < w ∧ Exj j H4 H' ∧ Deck H' j (n + 1 + 2 * i + 2), ?_, ?_⟩
      · refine ⟨_, rfl, (by show 0 ≤ sizeLine; decide), fun p5 H5 n5 e5 h5 => ?_⟩
        refine neI_ (sqI (e5 _ _ f4)) (ys := []) (sqI h5) ⟨_, rfl, ?_⟩
        refine ifB (fun cc => ?_) (fun cc => ⟨c, rfl, c0, c1, Exj.of e5, (j4.ex e5).mono (by omega)⟩)
        have ne : cs ≠ [] := by simpa using cc
        refine ⟨_, rfl, j, _, _, rfl, j4.ex e5, by omega, by decide, by decide, fun d3 H6 d3a d3b e6 j6 => ?_⟩
        refine ⟨rfl, _, rfl, ?_⟩
        have y6 : Exj j H4 H6 := (Exj.of e5).trans e6
        refine ifB (fun c2 => ?_) (fun c2 => ⟨c, rfl, c0, c1, y6, j6.mono (by omega)⟩)
        obtain ⟨l, x, rfl⟩ : ∃ l x, cs = l ++ [x] := ⟨_, _, (List.dropLast_concat_getLast ne).symm⟩
        have f6 := y6 _ _ nFj f4
        have al : atI ((l ++ [x]).map V.int) (-1) = some (.int x) := by
          rw [List.map_append]
          exact atI_last _ _
        have bx := mc x (by simp)
        exact ⟨_, rfl, _, rfl, _, _, _, _, rfl, rfl, sqI f6, al, x, rfl, bx.1, bx.2, y6, j6.mono (by omega)⟩
      · rintro σ' H5 ⟨c', rfl, c0', c1', e5, j5⟩
        have f5 := e5 _ _ nFj f4
        refine ⟨_, rfl, .inl ⟨rfl, _, sqI f5⟩, _, rfl, _, _, _, rfl, rfl, f5, ?_, ?_⟩
        · rw [List.length_map, cl]
          exact Nat.lt_of_lt_of_le (show i < 100 by omega) (by decide)
        · refine ⟨_, _, cs ++ [c'], rfl, ?_, (j5.mono (by omega)).upd nFj, ?_, by simp [cl], fun x hx => ?_⟩
          · intro b o nb hb
            rw [upd_ne (ne_of_none hb nF)]
            exact e5 _ _ nb (e4 _ _ nb (e3 _ _ nb hb))
          · rw [upd_same, List.map_append]
            rfl
          · rcases List.mem_append.mp hx with z | z
            · exact mc x z
            · rw [List.mem_singleton.mp z]; exact ⟨c0', c1'⟩
    · rintro σ H3 ⟨v4, v5, cs, rfl, e3, j3, f3, cl, mc⟩
      exact ⟨_, rfl, k F cs H3 nF nFj e3 (j3.mono (by omega)) f3 (by omega) mc⟩
theorem ok__law_keys (T : Txt K mg) : FnOk PR w K mg base CX0 2 T.a__law_keys T.d__law_keys ["_law_deck", "_law_width"] (sp__law_keys K) := by
  refine T.f__law_keys.ok sc__law_keys (fun vs H Q E h => ?_) (fun cdv A outer s H vs Q E hr h => ?_)
  · obtain ⟨j, w, n, rfl, _⟩ := h
    rfl
  · obtain ⟨j, w, n, rfl, hj, hn, w1, k⟩ := h
    refine ⟨_, (pss_cons (ps_set (i := 2) sc__law_keys.nd rfl (by first | exact Or.inl rfl | exact Or.inr rfl) (pe_listRgG (by rfl) (by rfl) T.z_list (prg_1 (by rfl) T.z_range (pv 1)))) (pss_cons (ps_set (i := 3) sc__law_keys.nd rfl (by first | exact Or.inl rfl | exact Or.inr rfl) (pe_lstG pa_nil)) (pss_cons (ps_for PassesOwn.never rfl (pi_range1 (by rfl) T.z_range (pa_cons (pe_call (ok__law_draw T) (hr.mono (by decide)) (by rfl) T.g__law_draw T.f__law_draw.kp (b__law_draw T) .nil pass0 (pa_cons (pv 0) (pa_cons (pe_op op_add (pv 1) pe_int) pa_nil))) pa_nil)) (pg_name (i := 4) sc__law_keys.nd rfl (by first | exact Or.inl rfl | exact Or.inr rfl)) (pss_one (ps_expr (pe_bm PySem.F.plainAttrs_list PySem.F.slot_list_append PySem.F.type_list_append mt_append (pv 3) (pa_cons (pe_tupG (pa_cons (pe_bm PySem.F.plainAttrs_list PySem.F.slot_list_pop PySem.F.type_list_pop mt_popAt (pv 2) (pa_cons (pe_call (ok__law_draw T) (hr.mono (by decide)) (by rfl) T.g__law_draw T.f__law_draw.kp (b__law_draw T) .nil pass0 (pa_cons (pv 0) (pa_cons (pe_callB call_len_seq (by rfl) T.z_len PySem.boot_len (pa_cons (pv 2) pa_nil)) pa_nil))) pa_nil)) (pa_cons (pe_ix ix_list (pe_lstG (pa_cons pe_int (pa_cons (pe_un un_neg pe_int) pa_nil))) (pe_call (ok__law_draw T) (hr.mono (by decide)) (by rfl) T.g__law_draw T.f__law_draw.kp (b__law_draw T) .nil pass0 (pa_cons (pv 0) (pa_cons pe_int pa_nil))) (fun _ _ => rfl)) pa_nil))) pa_nil))))) (pss_one (ps_ret (pv 3)))))), ?_⟩
    refine ⟨_, rfl, _, rfl, rgo w (by omega), fun L H1 nL e1 hL => ?_⟩
    have hL : H1 L = some (.lst ((upN w).map V.int)) := by rw [hL, rgV_upN]
    refine ⟨(by show 0 ≤ sizeLine; decide), fun F H2 nF e2 hF => ?_⟩
    have nLj := hj.ne nL
    have nFj := (hj.ex e1).ne nF
    have nFL : F ≠ L := (ne_of_none hL nF).symm
    have e02 := e1.trans e2
    refine ⟨_, rfl, _, rfl, _, _, rfl, rfl, j, _, n, rfl, hj.ex e02, by omega, by omega, by omega, fun d H3 d0 d1 e3 j3 => ?_⟩
    refine ⟨_, rfl, by omega, by omega, for_range (lo := 0) (n := d.toNat) (fun i σ H' => ∃ (v4 : Option V) (us : List V) (ks : List Ky) (ls : List Int), σ = [some (.ref j), some (.int (w : Nat)), some (.ref L), some (.ref F), v4] ∧ Exj j H H' ∧ Deck H' j (n + 1 + 2 * i) ∧ H' F = some (.lst us) ∧ AllR (fun v k => KyR K H' v k ∧ v ≠ .ref F ∧ v ≠ .ref L ∧ v ≠ .ref j) us ks ∧ H' L = some (.lst (ls.map V.int)) ∧ ks.length = i ∧ (cols ks ++ ls).Perm (upN w) ∧ ∀ k ∈ ks, k.2 = 1 ∨ k.2 = -1) ⟨_, [], [], _, rfl, (Exj.of e02).trans e3, j3.mono (by omega), e3 _ _ nFj hF, AllR.nil, e3 _ _ nLj (e2 _ _ hL), rfl, List.Perm.refl _, fun k hk => by cases hk⟩ ?_ ?_⟩
    · rintro i σ H4 hi ⟨v4, us, ks, ls, rfl, e4, j4, f4, a4, l4, kl, pm, sg⟩
      have ul := a4.1
      have hlen : ks.length + ls.length = w := by
        have := pm.length_eq
        simpa [cols, upN_len] using this
      refine ⟨_, rfl, .inl ⟨rfl, _, sqI f4⟩, _, rfl, .inl ⟨rfl, _, sqI l4⟩, _, rfl, _, rfl, _, _, rfl, .inl (sqI l4), j, _, _, rfl, j4, by omega, ?_, ?_, fun m H5 m0 m1 e5 j5 => ?_⟩
      · rw [List.length_map]
        omega
      · rw [List.length_map]
        omega
      rw [List.length_map] at m1
      have l5 := e5 _ _ nLj l4
      have f5 := e5 _ _ nFj f4
      have hy : ls[m.toNat]? = some (ls[m.toNat]'(by omega)) := List.getElem?_eq_getElem (by omega)
      refine ⟨_, _, _, m.toNat, _, rfl, rfl, l5, by omega, by omega, ?_, by rw [List.getElem?_map, hy]; rfl, ?_⟩
      · rw [List.length_map]
        exact seqIndex_of m0 m1
      have x5 : ∀ b o, b ≠ L → H5 b = some o → L2.upd H5 L (.lst ((ls.map V.int).eraseIdx m.toNat)) b = some o := fun b o nb h => by rw [upd_ne nb]; exact h
      have j5' := j5.upd (o := .lst ((ls.map V.int).eraseIdx m.toNat)) nLj
      have l5' : L2.upd H5 L (.lst ((ls.map V.int).eraseIdx m.toNat)) L = some (.lst ((ls.map V.int).eraseIdx m.toNat)) := upd_same
      generalize L2.upd H5 L (.lst ((ls.map V.int).eraseIdx m.toNat)) = H6 at x5 j5' l5' ⊢
      refine ⟨_, rfl, (by show 2 ≤ sizeLine; decide), fun p7 H7 n7 e7 h7 => ?_⟩
      have n7j := j5'.ne n7
      refine ⟨_, rfl, j, _, _, rfl, j5'.ex e7, by omega, by decide, by decide, fun g H8 g0 g1 e8 j8 => ?_⟩
      have ea : ∃ s : Int, atI [V.int 1, V.int (-1)] g = some (.int s) ∧ (s = 1 ∨ s = -1) := by
        rcases (show g = 0 ∨ g = 1 by omega) with z | z
        · exact ⟨1, by rw [z]; exact at0, .inl rfl⟩
        · exact ⟨-1, by rw [z]; exact at1, .inr rfl⟩
      obtain ⟨s, ea, hs⟩ := ea
      refine ⟨_, _, _, _, rfl, rfl, sqI (e8 _ _ n7j h7), ea, (by show 2 ≤ sizeLine; decide), fun p9 H9 n9 e9 h9 => ?_⟩
      have f9 : H9 F = some (.lst us) := e9 _ _ (e8 _ _ nFj (e7 _ _ (x5 _ _ nFL f5)))
      have n9j := j8.ne n9
      have n9F : p9 ≠ F := fun z => by rw [z, e8 _ _ nFj (e7 _ _ (x5 _ _ nFL f5))] at n9; cases n9
      have n9L : p9 ≠ L := fun z => by rw [z, e8 _ _ nLj (e7 _ _ l5')] at n9; cases n9
      refine ⟨_, _, _, rfl, rfl, f9, ?_, ?_⟩
      · rw [ul, kl]
        exact Nat.lt_of_lt_of_le (show i < 100 by omega) (by decide)
      have go : ∀ b o, b ≠ j → b ≠ L → b ≠ F → H4 b = some o → L2.upd H9 F (.lst (us ++ [.ref p9])) b = some o := fun b o nb nL' nF' h => by
        rw [upd_ne nF']
        exact e9 _ _ (e8 _ _ nb (e7 _ _ (x5 _ _ nL' (e5 _ _ nb h))))
      refine ⟨_, us ++ [.ref p9], ks ++ [(ls[m.toNat]'(by omega), s)], ls.eraseIdx m.toNat, rfl, ?_, ((j8.ex e9).mono (by omega)).upd nFj, upd_same, ?_, ?_, by simp [kl], ?_, fun x hx => ?_⟩
      · intro b o nb hb
        have hb4 := e4 _ _ nb hb
        exact go b o nb (ne_of_none hb nL) (ne_of_none (e1 _ _ hb) nF) hb4
      · refine AllR.snoc (a4.mono fun v x r => ?_) ⟨⟨p9, rfl, sqT ?_⟩, ?_, ?_, ?_⟩
        · obtain ⟨⟨q, rfl, hq⟩, r2, r3, r4⟩ := r
          refine ⟨⟨q, rfl, ?_⟩, r2, r3, r4⟩
          have nj : q ≠ j := fun z => r4 (by rw [z])
          have nL' : q ≠ L := fun z => r3 (by rw [z])
          have nF' : q ≠ F := fun z => r2 (by rw [z])
          rcases hq with (h | ⟨o, h⟩) | h
          · exact .inl (.inl (go _ _ nj nL' nF' h))
          · exact .inl (.inr ⟨o, go _ _ nj nL' nF' h⟩)
          · exact .inr h
        · rw [upd_ne n9F]
          exact h9
        · intro z; cases z; exact n9F rfl
        · intro z; cases z; exact n9L rfl
        · intro z; cases z; exact n9j rfl
      · rw [upd_ne nFL.symm, ← map_erase]
        exact e9 _ _ (e8 _ _ nLj (e7 _ _ l5'))
      · have ec : cols (ks ++ [(ls[m.toNat]'(by omega), s)]) = cols ks ++ [ls[m.toNat]'(by omega)] := by simp [cols]
        rw [ec, List.append_assoc]
        exact (List.Perm.append_left (cols ks) (erase_perm hy)).trans pm
      · rcases List.mem_append.mp hx with z | z
        · exact sg x z
        · rw [List.mem_singleton.mp z]; exact hs
    · rintro σ H4 ⟨v4, us, ks, ls, rfl, e4, j4, f4, a4, l4, kl, pm, sg⟩
      have nd : (cols ks).Nodup := by
        have : (upN w).Nodup := by
          unfold upN
          rw [List.nodup_iff_pairwise_ne, List.pairwise_map]
          exact (List.nodup_iff_pairwise_ne.mp List.nodup_range).imp fun h e => h (by omega)
        exact (List.nodup_append.mp (pm.nodup_iff.mpr this)).1
      have mm : Many w (cols ks) := fun c hc => by
        obtain ⟨i, hi, rfl⟩ := List.mem_map.mp (pm.mem_iff.mp (List.mem_append_left _ hc))
        have := List.mem_range.mp hi
        omega
      exact ⟨_, rfl, k F ks H4 (none_of e1 nF) nFj e4 (j4.mono (by omega)) ⟨us, f4, a4.mono fun v x r => r.1⟩ (by omega) ⟨nd, sg⟩ mm⟩
end
end K10
set_option Elab.async false
set_option pp.maxSteps 1200
set_option linter.all false
set_option maxRecDepth 100000
set_option maxHeartbeats 4000000
namespace K10
open PySem L2 My
def LsR (K : PySem.W.Frag) (H : Hp) (v : V) (ks : List Ky) : Prop := ∃ p, v = .ref p ∧ LsK K H p ks
def LsX (K : PySem.W.Frag) (j : Addr) (H : Hp) (v : V) (ks : List Ky) : Prop := ∃ p, v = .ref p ∧ p ≠ j ∧ LsK K H p ks
theorem LsR.ex {K : PySem.W.Frag} {H H' : Hp} {v : V} {ks : List Ky} (h : LsR K H v ks) (e : Ex H H') : LsR K H' v ks := let ⟨p, a, b⟩ := h; ⟨p, a, b.ex e⟩
theorem LsX.exj {K : PySem.W.Frag} {H H' : Hp} {j : Addr} {ys : List V} {v : V} {ks : List Ky} (h : LsX K j H v ks) (e : Exj j H H') (hj : H j = some (.lst ys)) : LsX K j H' v ks := let ⟨p, a, n, b⟩ := h; ⟨p, a, n, b.exj e n hj⟩
theorem LsX.r {K : PySem.W.Frag} {H : Hp} {j : Addr} {v : V} {ks : List Ky} (h : LsX K j H v ks) : LsR K H v ks := let ⟨p, a, _, b⟩ := h; ⟨p, a, b⟩
theorem LsR.x {K : PySem.W.Frag} {H H' : Hp} {j : Addr} {v : V} {ks : List Ky} (h : LsR K H v ks) (n : H j = none) (e : Ex H H') : LsX K j H' v ks := by
  obtain ⟨p, rfl, us, h1, h2⟩ := h
  exact ⟨p, rfl, (fun z => by rw [z, n] at h1; cases h1), LsK.ex ⟨us, h1, h2⟩ e⟩
def sp__law_after (K : PySem.W.Frag) : Sp := fun vs H Q _ => ∃ (p a : Addr) (ks : List Ky) (cs : List Int), vs = [.ref p, .ref a] ∧ LsK K H p ks ∧ SqL K H a (cs.map V.int) ∧ ks.length + cs.length ≤ 500 ∧ ∀ q H', Ex H H' → LsK K H' q (afterL ks cs) → Q (.ref q) H'
def sp__law_every (K : PySem.W.Frag) : Sp := fun vs H Q _ => ∃ (w : Nat), vs = [.int (w : Nat)] ∧ 1 ≤ w ∧ w ≤ 3 ∧ ∀ p H' us, Ex H H' → H' p = some (.lst us) → AllR (LsR K H') us (everyL w) → Q (.ref p) H'
theorem cell_at0 {cs : List Int} {i : Nat} (h : i < cs.length) : atI (cs.map V.int) ((0 : Int) + ((i : Nat) : Int)) = some (.int (cs.getD ((0 : Int) + (i : Int)).toNat 0)) := by
  rw [Int.zero_add]
  exact cell_atN h
theorem grow {K : PySem.W.Frag} {K1 K4 : Hp} {G p t : Addr} {gs uk : List V} {xs : List (List Ky)} {ks : List Ky} {c s : Int} (e : Ex K1 K4) (g1 : K1 G = some (.lst gs)) (a1 : AllR (LsX K G K1) gs xs) (hk : KsAt K K1 uk ks) (np : p ≠ G) (h8 : K4 p = some (.lst (uk ++ [.ref t]))) (ht : K4 t = some (.tup [.int c, .int s])) :
    Exj G K1 (upd K4 G (.lst (gs ++ [.ref p]))) ∧ AllR (LsX K G (upd K4 G (.lst (gs ++ [.ref p])))) (gs ++ [.ref p]) (xs ++ [ks ++ [(c, s)]]) := by
  have ej : Exj G K1 (upd K4 G (.lst (gs ++ [.ref p]))) := (Exj.of e).upd
  have nt : t ≠ G := fun z => by rw [z, e _ _ g1] at ht; cases ht
  refine ⟨ej, AllR.snoc (a1.mono fun v x r => r.exj ej g1) ⟨p, rfl, np, uk ++ [.ref t], ?_, (hk.exj ej g1).append (AllR.one ⟨t, rfl, sqT ?_⟩)⟩⟩
  · rw [upd_ne np]; exact h8
  · rw [upd_ne nt]; exact ht
section
variable {w : World} {K : PySem.W.Frag} {mg : Str → Option Value} {base : Heap}
theorem ok__law_click (T : Txt K mg) : FnOk PR w K mg base CX0 1 T.a__law_click T.d__law_click ["_law_keys_here", "_law_column"] (sp_after_click K) := by
  refine T.f__law_click.ok sc__law_click (fun vs H Q E h => ?_) (fun cdv A outer s H vs Q E hr h => ?_)
  · obtain ⟨p, ks, c, rfl, _⟩ := h
    rfl
  · obtain ⟨p, ks, c, rfl, hp, hl, k⟩ := h
    refine ⟨_, (pss_cons (ps_if (PW.pt (pw_and (pt_cmpR (op_neD hr.units) (pv 0) (pe_lstG pa_nil) (nomark _)) (pw_and1 (pt_cmpR op_eq (pe_ix ix_tup (pe_ix ix_list (pv 0) pe_int (fun _ _ => rfl)) pe_int (fun _ _ => rfl)) (pv 1) (nomark _))))) (pss_one (ps_ret (pe_op op_catG (pe_lstG (pa_cons (pe_tupG (pa_cons (pv 1) (pa_cons (pe_un un_neg (pe_ix ix_tup (pe_ix ix_list (pv 0) pe_int (fun _ _ => rfl)) pe_int (fun _ _ => rfl))) pa_nil))) pa_nil)) (pe_slice sl_listG (pv 0) (po_some pe_int) po_none)))) pss_nil) (pss_one (ps_ret (pe_op op_catG (pe_lstG (pa_cons (pe_tupG (pa_cons (pv 1) (pa_cons pe_int pa_nil))) pa_nil)) (pe_lc (own := [("_law_key", 2)]) (g := gName 2) (by rfl) sc__law_click.nd (pi_list (pv 0)) (blkOk_by (own := [("_law_key", 2)]) (N := ["_law_keys_here", "_law_column", "_law_key"]) (sc := (defScope s__law_click)) (by decide +kernel)) (fun _ _ _ _ _ => (pg_name (i := 2) sc__law_click.nd rfl (by first | exact Or.inl rfl | exact Or.inr rfl))) (fun _ _ _ _ _ => (pts_one (pt_cmpR op_ne (pe_ix (ixK (r := rIxT) (K := K) (by rfl) ix_tup) (pv 2) pe_int (fun _ _ => rfl)) (pv 1) (nomark _)))) (fun _ _ _ _ _ => (pv 2))))))), ?_⟩
    obtain ⟨us, hu, hk⟩ := id hp
    have ul := hk.1
    refine ⟨_, rfl, (by show 0 ≤ sizeLine; decide), fun p1 H1 n1 e1 h1 => ?_⟩
    refine neE (goodL goodK) (by decide) (x := ks) (y := []) (hp.ex e1).dp (nilD h1) ⟨_, rfl, ?_⟩
    have other : (∀ k0 r, ks = k0 :: r → k0.1 ≠ c) → click ks c = (c, 1) :: ks.filter (fun x => !decide (x.1 = c)) := fun h => by
      cases ks with
      | nil => rfl
      | cons k0 r => exact if_neg (h k0 r rfl)
    refine ifB (fun z => ?_) (fun z => ?_)
    · have ne : ks ≠ [] := by simpa using z
      obtain ⟨k0, r, rfl⟩ := optHead ne
      obtain ⟨u0, t, rfl⟩ : ∃ u0 t, us = u0 :: t := by
        cases us with
        | nil => cases ul
        | cons u t => exact ⟨u, t, rfl⟩
      obtain ⟨q0, e0, hq0⟩ := hk.2 0 u0 k0 rfl rfl
      subst e0
      have hq1 := Evl.ex_t e1 hq0
      refine ⟨_, rfl, _, _, _, _, rfl, rfl, sqI (e1 _ _ hu), at0, _, _, _, _, rfl, rfl, hq1, at0, _, rfl, rfl, _, rfl, ?_⟩
      rw [decInt]
      refine ifB (fun c1 => ?_) (fun c1 => ?_)
      · have ec : k0.1 = c := of_decide_eq_true c1
        refine ⟨_, rfl, _, rfl, _, _, _, _, rfl, rfl, sqI (e1 _ _ hu), at0, _, _, _, _, rfl, rfl, hq1, at1, _, rfl, (by show 2 ≤ sizeLine; decide), fun p2 H2 n2 e2 h2 => ?_⟩
        refine ⟨(by show 1 ≤ sizeLine; decide), fun p3 H3 n3 e3 h3 => ?_⟩
        refine ⟨_, rfl, _, rfl, _, _, rfl, sqI ((e1.trans (e2.trans e3)) _ _ hu), fun p4 H4 n4 e4 h4 => ?_⟩
        have ct : cutV (V.ref q0 :: t) (some 1) none = t := cut_from _ 1
        rw [ct] at h4
        refine ⟨_, _, _, _, rfl, rfl, e4 _ _ h3, h4, ?_, fun p5 H5 n5 e5 h5 => ?_⟩
        · simp only [List.length_cons] at ul hl
          exact Nat.le_trans (show 1 + t.length ≤ 501 by omega) (by decide)
        have e15 := e2.trans (e3.trans (e4.trans e5))
        have e05 := e1.trans e15
        refine k p5 H5 (none_of (e1.trans (e2.trans (e3.trans e4))) n5) e05 ?_
        have cl : click (k0 :: r) c = (c, -k0.2) :: r := if_pos ec
        rw [cl]
        refine ⟨V.ref p2 :: t, h5, ?_⟩
        have tl : KsAt K H5 t r := ⟨by simpa using ul, fun i v x h1 h2 => (hk.ex e05).2 (i + 1) v x h1 h2⟩
        exact (AllR.one (R := KyR K H5) ⟨p2, rfl, sqT ((e3.trans (e4.trans e5)) _ _ h2)⟩).append tl
      · have nc : k0.1 ≠ c := of_decide_eq_false c1
        rw [other (fun k' r' e => by cases e; exact nc)] at k
        refine ⟨_, rfl, (by show 2 ≤ sizeLine; decide), fun p2 H2 n2 e2 h2 => ?_⟩
        refine ⟨(by show 1 ≤ sizeLine; decide), fun p3 H3 n3 e3 h3 => ?_⟩
        have e13 := e1.trans (e2.trans e3)
        refine ⟨_, rfl, p, rfl, ⟨_, sqI (e13 _ _ hu)⟩, fun D hD => lc_filtO (K := K) (a := p) (R := KyR K H3) (ys := k0 :: r) (p := fun x => !decide (x.1 = c)) (sqI (e13 _ _ hu)) (hk.ex e13) hD (by omega) (fun x => rfl) ?_ ?_ ?_⟩
        · rintro v y H' hy ⟨q, rfl, hq⟩ e' Z kZ
          refine ⟨_, rfl, _, _, _, _, rfl, rfl, Evl.ex_t e' hq, at0, _, rfl, rfl, _, rfl, ?_⟩
          rw [decInt]
          exact kZ H' (Evl.Ex.refl _)
        · intro v H' N kN
          exact ⟨_, rfl, kN⟩
        intro H4 us4 e4 d4 r4
        have l4 := r4.1
        have lf := List.length_filter_le (fun x : Ky => !decide (x.1 = c)) (k0 :: r)
        refine ⟨_, _, _, _, rfl, rfl, e4 _ _ h3, d4, ?_, fun p5 H5 n5 e5 h5 => ?_⟩
        · exact Nat.le_trans (show 1 + us4.length ≤ 501 by omega) (by decide)
        refine k p5 H5 (none_of (e13.trans e4) n5) (e13.trans (e4.trans e5)) ⟨V.ref p2 :: us4, h5, ?_⟩
        exact (AllR.one (R := KyR K H5) ⟨p2, rfl, sqT ((e3.trans (e4.trans e5)) _ _ h2)⟩).append (r4.mono fun v x r => r.ex (e4.trans e5))
    · have e : ks = [] := by simpa using z
      rw [other (fun k' r' h => by rw [e] at h; cases h)] at k
      refine ⟨_, rfl, (by show 2 ≤ sizeLine; decide), fun p2 H2 n2 e2 h2 => ?_⟩
      refine ⟨(by show 1 ≤ sizeLine; decide), fun p3 H3 n3 e3 h3 => ?_⟩
      have e13 := e1.trans (e2.trans e3)
      refine ⟨_, rfl, p, rfl, ⟨_, sqI (e13 _ _ hu)⟩, fun D hD => lc_filtO (K := K) (a := p) (R := KyR K H3) (ys := ks) (p := fun x => !decide (x.1 = c)) (sqI (e13 _ _ hu)) (hk.ex e13) hD (by omega) (fun x => rfl) ?_ ?_ ?_⟩
      · rintro v y H' hy ⟨q, rfl, hq⟩ e' Z kZ
        refine ⟨_, rfl, _, _, _, _, rfl, rfl, Evl.ex_t e' hq, at0, _, rfl, rfl, _, rfl, ?_⟩
        rw [decInt]
        exact kZ H' (Evl.Ex.refl _)
      · intro v H' N kN
        exact ⟨_, rfl, kN⟩
      intro H4 us4 e4 d4 r4
      have l4 := r4.1
      have lf := List.length_filter_le (fun x : Ky => !decide (x.1 = c)) ks
      refine ⟨_, _, _, _, rfl, rfl, e4 _ _ h3, d4, ?_, fun p5 H5 n5 e5 h5 => ?_⟩
      · exact Nat.le_trans (show 1 + us4.length ≤ 501 by omega) (by decide)
      refine k p5 H5 (none_of (e13.trans e4) n5) (e13.trans (e4.trans e5)) ⟨V.ref p2 :: us4, h5, ?_⟩
      exact (AllR.one (R := KyR K H5) ⟨p2, rfl, sqT ((e3.trans (e4.trans e5)) _ _ h2)⟩).append (r4.mono fun v x r => r.ex (e4.trans e5))
theorem ok__law_after (T : Txt K mg) : FnOk PR w K mg base CX0 2 T.a__law_after T.d__law_after ["_law_keys_here", "_law_clicks_here"] (sp__law_after K) := by
  refine T.f__law_after.ok sc__law_after (fun vs H Q E h => ?_) (fun cdv A outer s H vs Q E hr h => ?_)
  · obtain ⟨p, a, ks, cs, rfl, _⟩ := h
    rfl
  · obtain ⟨p, a, ks, cs, rfl, hp, ha, hl, k⟩ := h
    refine ⟨_, (pss_cons (ps_for PassesOwn.never rfl (pi_list (pv 1)) (pg_name (i := 2) sc__law_after.nd rfl (by first | exact Or.inl rfl | exact Or.inr rfl)) (pss_one (ps_set (i := 0) sc__law_after.nd rfl (by first | exact Or.inl rfl | exact Or.inr rfl) (pe_call (ok__law_click T) (hr.mono (by decide)) (by rfl) T.g__law_click T.f__law_click.kp (b__law_click T) .nil pass0 (pa_cons (pv 0) (pa_cons (pv 2) pa_nil)))))) (pss_one (ps_ret (pv 0)))), ?_⟩
    refine ⟨_, rfl, a, rfl, ⟨_, ha⟩, for_it (walk_list (K := K) (a := a) (xs := cs.map V.int)) (fun i σ H' => ∃ (f : Addr) (v3 : Option V), σ = [some (.ref f), some (.ref a), v3] ∧ Ex H H' ∧ LsK K H' f (afterL ks (cs.take i))) ⟨p, _, rfl, Evl.Ex.refl H, hp⟩ (fun i σ H' _ ⟨_, _, _, e, _⟩ => Evl.ex_l e ha) ?_ ?_⟩
    · rintro i v σ HX H2 hi ⟨f, v3, rfl, e2, hf⟩ ⟨rfl, hv⟩
      obtain ⟨c, hc, rfl⟩ := mapI_get hv
      have := after_len (cs.take i) ks
      rw [List.length_take] at this
      refine ⟨_, rfl, _, rfl, f, _, c, rfl, hf, by omega, fun p3 H3 n3 e3 h3 => ?_⟩
      exact ⟨p3, _, rfl, e2.trans e3, by rw [take_after hc]; exact h3⟩
    · rintro σ H2 ⟨f, v3, rfl, e2, hf⟩
      rw [List.length_map, List.take_length] at hf
      exact ⟨_, rfl, k f H2 e2 hf⟩
theorem ok__law_every (T : Txt K mg) : FnOk PR w K mg base CX0 1 T.a__law_every T.d__law_every ["_law_width"] (sp__law_every K) := by
  refine T.f__law_every.ok sc__law_every (fun vs H Q E h => ?_) (fun cdv A outer s H vs Q E hr h => ?_)
  · obtain ⟨w, rfl, _⟩ := h
    rfl
  · obtain ⟨w, rfl, w1, w3, k⟩ := h
    refine ⟨_, (pss_cons (ps_set (i := 1) sc__law_every.nd rfl (by first | exact Or.inl rfl | exact Or.inr rfl) (pe_lstG (pa_cons (pe_lstG pa_nil) pa_nil))) (pss_cons (ps_set (i := 2) sc__law_every.nd rfl (by first | exact Or.inl rfl | exact Or.inr rfl) (pe_lstG (pa_cons (pe_lstG pa_nil) pa_nil))) (pss_cons (ps_for PassesOwn.never rfl (pi_range1 (by rfl) T.z_range (pa_cons (pv 0) pa_nil)) (pg_name (i := 3) sc__law_every.nd rfl (by first | exact Or.inl rfl | exact Or.inr rfl)) (pss_cons (ps_set (i := 4) sc__law_every.nd rfl (by first | exact Or.inl rfl | exact Or.inr rfl) (pe_lstG pa_nil)) (pss_cons (ps_for PassesOwn.never rfl (pi_list (pv 2)) (pg_name (i := 5) sc__law_every.nd rfl (by first | exact Or.inl rfl | exact Or.inr rfl)) (pss_cons (ps_set (i := 6) sc__law_every.nd rfl (by first | exact Or.inl rfl | exact Or.inr rfl) (pe_lc (own := [("_law_column", 7), ("_law_sign", 8)]) (g := (gTup K 2 (gCons (gName 7) (gCons (gName 8) gNil)))) (by rfl) sc__law_every.nd (pi_list (pv 5)) (blkOk_by (own := [("_law_column", 7), ("_law_sign", 8)]) (N := ["_law_width", "_law_found", "_law_layer", "_law_turn", "_law_longer", "_law_keys_here", "_law_used", "_law_column", "_law_sign", "_law_one"]) (sc := (defScope s__law_every)) (by decide +kernel)) (fun _ _ _ _ _ => (pg_tup rfl (pgs_cons (pg_name (i := 7) sc__law_every.nd rfl (by first | exact Or.inl rfl | exact Or.inr rfl)) (pgs_cons (pg_name (i := 8) sc__law_every.nd rfl (by first | exact Or.inl rfl | exact Or.inr rfl)) pgs_nil)))) (fun _ _ _ _ _ => pts_nil) (fun _ _ _ _ _ => (pv 7)))) (pss_one (ps_for PassesOwn.never rfl (pi_list (pe_lc (own := [("_law_one", 9)]) (g := gName 9) (by rfl) sc__law_every.nd (pi_range1 (by rfl) T.z_range (pa_cons (pv 0) pa_nil)) (blkOk_by (own := [("_law_one", 9)]) (N := ["_law_width", "_law_found", "_law_layer", "_law_turn", "_law_longer", "_law_keys_here", "_law_used", "_law_column", "_law_sign", "_law_one"]) (sc := (defScope s__law_every)) (by decide +kernel)) (fun _ _ _ _ _ => (pg_name (i := 9) sc__law_every.nd rfl (by first | exact Or.inl rfl | exact Or.inr rfl))) (fun _ _ _ _ _ => (pts_one (pt_cmpR (opK (r := fun K => rIn K true) (K := K) (by rfl) op_notIn_seq) (pv 9) (pv 6) (by rfl)))) (fun _ _ _ _ _ => (pv 9)))) (pg_name (i := 7) sc__law_every.nd rfl (by first | exact Or.inl rfl | exact Or.inr rfl)) (pss_cons (ps_expr (pe_bm PySem.F.plainAttrs_list PySem.F.slot_list_append PySem.F.type_list_append mt_append (pv 4) (pa_cons (pe_op op_catG (pv 5) (pe_lstG (pa_cons (pe_tupG (pa_cons (pv 7) (pa_cons (pe_un un_neg pe_int) pa_nil))) pa_nil))) pa_nil))) (pss_one (ps_expr (pe_bm PySem.F.plainAttrs_list PySem.F.slot_list_append PySem.F.type_list_append mt_append (pv 4) (pa_cons (pe_op op_catG (pv 5) (pe_lstG (pa_cons (pe_tupG (pa_cons (pv 7) (pa_cons pe_int pa_nil))) pa_nil))) pa_nil))))))))) (pss_cons (ps_set (i := 1) sc__law_every.nd rfl (by first | exact Or.inl rfl | exact Or.inr rfl) (pe_op op_catG (pv 1) (pv 4))) (pss_one (ps_set (i := 2) sc__law_every.nd rfl (by first | exact Or.inl rfl | exact Or.inr rfl) (pe_callTy call_listG (by rfl) T.z_list (by decide +kernel) (pa_cons (pv 4) pa_nil)))))))) (pss_one (ps_ret (pv 1)))))), ?_⟩
    refine ⟨(by show 0 ≤ sizeLine; decide), fun p1 H1 n1 e1 h1 => ?_⟩
    refine ⟨(by show 1 ≤ sizeLine; decide), fun F0 H2 n2 e2 h2 => ?_⟩
    refine ⟨(by show 0 ≤ sizeLine; decide), fun p3 H3 n3 e3 h3 => ?_⟩
    refine ⟨(by show 1 ≤ sizeLine; decide), fun L0 H4 n4 e4 h4 => ?_⟩
    have e34 := e3.trans e4
    have e14 := e2.trans e34
    refine ⟨_, rfl, _, rfl, by omega, by omega, for_range (lo := 0) (n := ((w : Nat) : Int).toNat) (fun i σ H' => ∃ (F L : Addr) (us ls : List V) (v3 v4 v5 v6 v7 v8 v9 : Option V), σ = [some (.int (w : Nat)), some (.ref F), some (.ref L), v3, v4, v5, v6, v7, v8, v9] ∧ Ex H H' ∧ H' F = some (.lst us) ∧ H' L = some (.lst ls) ∧ AllR (LsR K H') us (everyN w i) ∧ AllR (LsR K H') ls (layerL w i)) ⟨F0, L0, [.ref p1], [.ref p3], _, _, _, _, _, _, _, rfl, e1.trans e14, e34 _ _ h2, h4, ?_, AllR.one ⟨p3, rfl, [], e4 _ _ h3, AllR.nil⟩⟩ ?_ ?_⟩
    · have : everyN w 0 = [[]] := by simp [everyN, List.range_succ, layerL]
      rw [this]
      exact AllR.one ⟨p1, rfl, [], e14 _ _ h1, AllR.nil⟩
    · rintro i σ H5 hi ⟨F, L, us, ls, v3, v4, v5, v6, v7, v8, v9, rfl, e5, hF, hL, aF, aL⟩
      refine ⟨(by show 0 ≤ sizeLine; decide), fun G H6 nG e6 hG => ?_⟩
      have lF := aF.1
      have lL := aL.1
      have b1 := every_le w3 i (by omega)
      have b2 := layer_le (w := w) (n := i) w3 (by omega)
      have nLG : L ≠ G := ne_of_none hL nG
      have nFG : F ≠ G := ne_of_none hF nG
      have aF6 : AllR (LsX K G H6) us (everyN w i) := aF.mono fun v x r => r.x nG e6
      have aL6 : AllR (LsX K G H6) ls (layerL w i) := aL.mono fun v x r => r.x nG e6
      refine ⟨_, rfl, L, rfl, ⟨_, sqI (e6 _ _ hL)⟩, for_it (walk_list (K := K) (a := L) (xs := ls)) (fun i2 σ H' => ∃ (gs : List V) (w3 w5 w6 w7 w8 w9 : Option V), σ = [some (.int (w : Nat)), some (.ref F), some (.ref L), w3, some (.ref G), w5, w6, w7, w8, w9] ∧ Exj G H6 H' ∧ H' G = some (.lst gs) ∧ AllR (LsX K G H') gs (((layerL w i).take i2).flatMap (nextL w)) ∧ gs.length ≤ 6 * i2) ⟨[], _, _, _, _, _, _, rfl, Exj.refl _ _, hG, AllR.nil, by show 0 ≤ _; omega⟩ ?_ ?_ ?_⟩
      · rintro i2 σ H' _ ⟨gs, w3, w5, w6, w7, w8, w9, _, e, _⟩
        exact sqI (e _ _ nLG (e6 _ _ hL))
      · rintro i2 v σ HX H7 hi2 ⟨gs, u3, u5, u6, u7, u8, u9, rfl, e7, g7, a7, l7⟩ ⟨rfl, hv⟩
        obtain ⟨ks, hks, r⟩ := aL6.get hv
        obtain ⟨q, rfl, nq, hq⟩ := r.exj e7 hG
        obtain ⟨uk, hu, hk⟩ := id hq
        have ul := hk.1
        have ksl := layer_size w i ks (List.mem_of_getElem? hks)
        refine ⟨_, rfl, q, rfl, ⟨_, sqI hu⟩, fun U nU => lc_mapG (K := K) (a := q) (ys := (cols ks).map V.int) (sqI hu) nU (by simp [cols, ul]) ?_ ?_ ?_⟩
        · have := ksl
          exact Nat.le_trans (show _ ≤ 3 by omega) (by decide)
        · intro i' x y H' e' hx hy N Z kN
          obtain ⟨k', hki, q', rfl, hq'⟩ := hk.get hx
          have hy' : (cols ks)[i']? = some k'.1 := by unfold cols; rw [List.getElem?_map, hki]; rfl
          rw [List.getElem?_map, hy'] at hy
          cases hy
          refine ⟨_, _, rfl, Evl.ex_t e' hq', rfl, _, _, rfl, _, _, rfl, rfl, rfl, ?_⟩
          show _
          exact ⟨_, rfl, kN H' (Evl.Ex.refl _)⟩
        intro H8 e8 d8
        refine ⟨_, rfl, _, rfl, by omega, by omega, fun C nC => lc_filtR (p := fun c => !decide (c ∈ cols ks)) nC (show w ≤ 1000 by omega) (fun x => rfl) ?_ ?_ ?_⟩
        · intro c H' hc e' Z kZ
          refine ⟨_, rfl, _, rfl, _, _, rfl, .inl (sqI (e' _ _ d8)), rfl, flatI _, _, rfl, ?_⟩
          rw [inV_int]
          exact kZ H' (Evl.Ex.refl _)
        · intro v H' N kN
          exact ⟨_, rfl, kN⟩
        intro H9 e9 d9
        have d9 : H9 C = some (.lst ((free w ks).map V.int)) := d9
        have e79 := e8.trans e9
        have nCG : C ≠ G := (ne_of_none (e8 _ _ g7) nC).symm
        have g9 := e79 _ _ g7
        have y9 : Exj G H6 H9 := e7.trans (Exj.of e79)
        have a9 : AllR (LsX K G H9) gs (((layerL w i).take i2).flatMap (nextL w)) := a7.mono fun v x r => r.exj (Exj.of e79) g7
        have fl := free_len w ks
        have i2l : i2 ≤ 216 := by omega
        refine ⟨C, rfl, ⟨_, sqI d9⟩, for_it (walk_list (K := K) (a := C) (xs := (free w ks).map V.int)) (fun i3 σ H' => ∃ (gs : List V) (w7 w8 w9 : Option V), σ = [some (.int (w : Nat)), some (.ref F), some (.ref L), u3, some (.ref G), some (.ref q), some (.ref U), w7, w8, w9] ∧ Exj G H9 H' ∧ H' G = some (.lst gs) ∧ AllR (LsX K G H') gs (((layerL w i).take i2).flatMap (nextL w) ++ ((free w ks).take i3).flatMap (both ks)) ∧ gs.length ≤ 6 * i2 + 2 * i3) ⟨gs, _, _, _, rfl, Exj.refl _ _, g9, ?_, by omega⟩ ?_ ?_ ?_⟩
        · show AllR _ gs (_ ++ [])
          rw [List.append_nil]
          exact a9
        · rintro i3 σ H' _ ⟨gs, w7, w8, w9, _, e, _⟩
          exact sqI (e _ _ nCG d9)
        · rintro i3 v σ HX K1 hi3 ⟨gs, w7, w8, w9, rfl, f1, g1, a1, l1⟩ ⟨rfl, hv⟩
          obtain ⟨c, hc, rfl⟩ := mapI_get hv
          have hi3 : i3 < (free w ks).length := by simpa using hi3
          have u1 : K1 q = some (.lst uk) := f1 _ _ nq (e79 _ _ hu)
          have k1 : KsAt K K1 uk ks := (hk.ex e79).exj f1 g9
          refine ⟨_, rfl, .inl ⟨rfl, _, sqI g1⟩, _, rfl, _, rfl, _, rfl, (by show 2 ≤ sizeLine; decide), fun t2 K2 n2 x2 h2 => ?_⟩
          refine ⟨(by show 1 ≤ sizeLine; decide), fun t3 K3 n3 x3 h3 => ?_⟩
          have kl : uk.length + [V.ref t2].length ≤ sizeLine := Nat.le_trans (show uk.length + 1 ≤ 10 by omega) (by decide)
          refine ⟨_, _, _, _, rfl, rfl, (x2.trans x3) _ _ u1, h3, kl, fun t4 K4 n4 x4 h4 => ?_⟩
          have x14 := x2.trans (x3.trans x4)
          have g4 := x14 _ _ g1
          have np : t4 ≠ G := (ne_of_none ((x2.trans x3) _ _ g1) n4).symm
          obtain ⟨ej, a5⟩ := grow x14 g1 a1 k1 np h4 ((x3.trans x4) _ _ h2)
          refine ⟨_, _, _, rfl, rfl, g4, Nat.lt_of_le_of_lt (show gs.length ≤ 3000 by omega) (by decide), ?_⟩
          have g5 : upd K4 G (.lst (gs ++ [V.ref t4])) G = some (.lst (gs ++ [.ref t4])) := upd_same
          generalize upd K4 G (.lst (gs ++ [V.ref t4])) = K5 at ej a5 g5 ⊢
          have u5 : K5 q = some (.lst uk) := ej _ _ nq u1
          have k5 : KsAt K K5 uk ks := k1.exj ej g1
          refine ⟨_, rfl, .inl ⟨rfl, _, sqI g5⟩, _, rfl, _, rfl, (by show 2 ≤ sizeLine; decide), fun t6 K6 n6 x6 h6 => ?_⟩
          refine ⟨(by show 1 ≤ sizeLine; decide), fun t7 K7 n7 x7 h7 => ?_⟩
          refine ⟨_, _, _, _, rfl, rfl, (x6.trans x7) _ _ u5, h7, kl, fun t8 K8 n8 x8 h8 => ?_⟩
          have x58 := x6.trans (x7.trans x8)
          have g8 := x58 _ _ g5
          have np' : t8 ≠ G := (ne_of_none ((x6.trans x7) _ _ g5) n8).symm
          obtain ⟨ej', a9'⟩ := grow x58 g5 a5 k5 np' h8 ((x7.trans x8) _ _ h6)
          refine ⟨_, _, _, rfl, rfl, g8, Nat.lt_of_le_of_lt (show (gs ++ [V.ref t4]).length ≤ 3000 by rw [List.length_append]; show _ + 1 ≤ _; omega) (by decide), ?_⟩
          refine ⟨_, _, _, _, rfl, f1.trans (ej.trans ej'), upd_same, ?_, ?_⟩
          · rw [take_snoc hc, List.flatMap_append]
            have : [c].flatMap (both ks) = [ks ++ [(c, -1)]] ++ [ks ++ [(c, 1)]] := rfl
            rw [this, ← List.append_assoc, ← List.append_assoc]
            exact a9'
          · rw [List.length_append, List.length_append]
            show _ + 1 + 1 ≤ _
            omega
        · rintro σ K1 ⟨gs, w7, w8, w9, rfl, f1, g1, a1, l1⟩
          rw [List.length_map, List.take_length, ← nextL_free] at a1
          rw [List.length_map] at l1
          refine ⟨gs, _, _, _, _, _, _, rfl, y9.trans f1, g1, ?_, by omega⟩
          rw [take_snoc hks, List.flatMap_append]
          simpa using a1
      · rintro σ H7 ⟨gs, u3, u5, u6, u7, u8, u9, rfl, e7, g7, a7, l7⟩
        rw [show (layerL w i).take ls.length = layerL w i by rw [lL]; exact List.take_length] at a7
        have a7 : AllR (LsX K G H7) gs (layerL w (i + 1)) := a7
        have f7 := e7 _ _ nFG (e6 _ _ hF)
        have lg : gs.length ≤ 6 * 216 := by omega
        refine ⟨_, rfl, _, rfl, _, _, _, _, rfl, rfl, f7, g7, ?_, fun F' H8 n8 e8 h8 => ?_⟩
        · exact Nat.le_trans (show us.length + gs.length ≤ 5000 by omega) (by decide)
        refine ⟨_, rfl, G, _, rfl, .inl (sqI (e8 _ _ g7)), fun L' H9 n9 e9 h9 => ?_⟩
        have e79 := e8.trans e9
        refine ⟨F', L', us ++ gs, gs, _, _, _, _, _, _, _, rfl, ?_, e9 _ _ h8, h9, ?_, a7.mono fun v x r => r.r.ex e79⟩
        · intro b o hb
          have nb : b ≠ G := fun z => by
            have := e5 _ _ hb
            rw [z, nG] at this
            cases this
          exact e79 _ _ (e7 _ _ nb (e6 _ _ (e5 _ _ hb)))
        · rw [everyN_succ]
          exact AllR.append (aF6.mono fun v x r => (r.exj e7 hG).r.ex e79) (a7.mono fun v x r => r.r.ex e79)
    · rintro σ H5 ⟨F, L, us, ls, v3, v4, v5, v6, v7, v8, v9, rfl, e5, hF, hL, aF, aL⟩
      exact ⟨_, rfl, k F H5 us e5 hF aF⟩
end
end K10
set_option Elab.async false
set_option pp.maxSteps 1200
set_option linter.all false
set_option maxRecDepth 100000
set_option maxHeartbeats 4000000
namespace K10
open PySem L2 My
theorem st_eq {P : L2.St → Prop} {σ σ' : L2.St} (e : σ = σ') (h : P σ') : P σ := e ▸ h
theorem allR_rev {α : Type} {R : V → α → Prop} {vs : List V} {xs : List α} (h : AllR R vs xs) : AllR R vs.reverse xs.reverse := by
  refine ⟨by rw [List.length_reverse, List.length_reverse, h.1], fun i v x h1 h2 => ?_⟩
  have hl : i < vs.length := by
    have := (List.getElem?_eq_some_iff.mp h1).1
    rwa [List.length_reverse] at this
  rw [List.getElem?_reverse hl] at h1
  rw [List.getElem?_reverse (by rw [← h.1]; exact hl), ← h.1] at h2
  exact h.2 _ v x h1 h2
theorem allR_take {α : Type} {R : V → α → Prop} {vs : List V} {xs : List α} (h : AllR R vs xs) (n : Nat) : AllR R (vs.take n) (xs.take n) := AllR.take h n
theorem allR_drop {α : Type} {R : V → α → Prop} {vs : List V} {xs : List α} (h : AllR R vs xs) (n : Nat) : AllR R (vs.drop n) (xs.drop n) := by
  refine ⟨by simp [h.1], fun i v x h1 h2 => ?_⟩
  rw [List.getElem?_drop] at h1 h2
  exact h.2 _ v x h1 h2
def KsW (w : Int) (ks : List Ky) : Prop := Vd ks ∧ ∀ c ∈ cols ks, 0 ≤ c ∧ c < w
theorem KsW.are {w : Int} {ks : List Ky} (h : KsW w ks) : areKeys ks = true := by
  unfold areKeys
  rw [Bool.and_eq_true, List.all_eq_true]
  refine ⟨decide_eq_true h.1.nd, fun k hk => ?_⟩
  unfold okK
  rw [Bool.and_eq_true]
  refine ⟨decide_eq_true (h.2 k.1 (List.mem_map.mpr ⟨k, hk, rfl⟩)).1, decide_eq_true ?_⟩
  rcases h.1.sg k hk with z | z <;> rw [z] <;> simp
def stepF (s : List Ky) (f : List Int) (k : Ky) : List Int := f ++ List.replicate (if k.2 = 1 ∨ (f = [] ∧ hdc s = some k.1) then 1 else 2) k.1
def sp_is_sorting_of (K : PySem.W.Frag) : Sp := fun vs H Q _ => ∃ (w : Int) (p : Addr) (ks : List Ky), vs = [.int w, .ref p] ∧ LsQ K H p ks ∧ ks.length ≤ 500 ∧ KsW w ks ∧ Evl.RetV (.bl true) H Q
def sp_need_sorting (K : PySem.W.Frag) : Sp := fun vs H Q _ => ∃ (w : Int) (p : Addr) (ks : List Ky), vs = [.int w, .ref p] ∧ LsQ K H p ks ∧ ks.length ≤ 500 ∧ KsW w ks ∧ ∀ H', Ex H H' → Q .non H'
def sp_need_width : Sp := fun vs H Q _ => ∃ w : Int, vs = [.int w] ∧ 1 ≤ w ∧ Q .non H
/-- None, or a new list of clicks -/
def NewO (o : Option (List Int)) (H : Hp) (Q : V → Hp → Prop) : Prop := (o = none → ∀ H', Ex H H' → Q .non H') ∧ ∀ cs, o = some cs → ∀ p H', H p = none → Ex H H' → H' p = some (.lst (cs.map V.int)) → Q (.ref p) H'
def lenV : Option (List Int) → V
  | none => .non
  | some cs => .int ((cs.length : Nat) : Int)
section
variable {w : World} {K : PySem.W.Frag} {mg : Str → Option Value} {base : Heap}
theorem ok_is_sorting_of (T : Txt K mg) : FnOk PR w K mg base CX0 2 T.a_is_sorting_of T.d_is_sorting_of ["width", "sorting"] (sp_is_sorting_of K) := by
  refine T.f_is_sorting_of.ok sc_is_sorting_of (fun vs H Q E h => ?_) (fun cdv A outer s H vs Q E hr h => ?_)
  · obtain ⟨w, p, ks, rfl, _⟩ := h
    rfl
  · obtain ⟨w, p, ks, rfl, hq, hl, kw, k⟩ := h
    refine ⟨_, (pss_one (ps_ret (pe_and (pe_call (ok_are_keys T) (hr.mono (by decide)) (by rfl) T.g_are_keys T.f_are_keys.kp (b_are_keys T) .nil pass0 (pa_cons (pv 1) pa_nil)) (pe_one (pe_callB (cr_all rfl) (by rfl) T.z_all (by decide +kernel) (pa_cons (pe_lc (own := [("column", 2), ("sign", 3)]) (g := (gTup K 2 (gCons (gName 2) (gCons (gName 3) gNil)))) (by rfl) sc_is_sorting_of.nd (pi_list (pv 1)) (blkOk_by (own := [("column", 2), ("sign", 3)]) (N := ["width", "sorting", "column", "sign"]) (sc := (defScope s_is_sorting_of)) (by decide +kernel)) (fun _ _ _ _ _ => (pg_tup rfl (pgs_cons (pg_name (i := 2) sc_is_sorting_of.nd rfl (by first | exact Or.inl rfl | exact Or.inr rfl)) (pgs_cons (pg_name (i := 3) sc_is_sorting_of.nd rfl (by first | exact Or.inl rfl | exact Or.inr rfl)) pgs_nil)))) (fun _ _ _ _ _ => pts_nil) (fun _ _ _ _ _ => (pe_cmpR op_lt (pv 2) (pv 0) (nomark _)))) pa_nil)))))), ?_⟩
    refine ⟨_, rfl, p, ks, rfl, hq, hl, fun H1 e1 => ?_⟩
    rw [kw.are]
    refine ⟨_, rfl, ifT rfl ?_⟩
    obtain ⟨us, hp, hk⟩ := hq.ex e1
    have ul := hk.1
    refine ⟨_, rfl, p, rfl, ⟨_, hp⟩, fun D hD => lc_mapG (K := K) (a := p) (ys := (ks.map fun _ => true).map V.bl) hp hD (by simp [ul]) (Nat.le_trans (show us.length ≤ 500 by omega) (by decide)) ?_ ?_⟩
    · intro i x y H' e' hx hy N Z kN
      obtain ⟨k', hki, q, rfl, hq⟩ := hk.get hx
      rw [List.getElem?_map, List.getElem?_map, hki] at hy
      cases hy
      refine ⟨_, _, rfl, Evl.ex_t e' hq, rfl, _, _, rfl, _, _, rfl, rfl, rfl, ?_⟩
      show _
      have : decide (k'.1 < w) = true := decide_eq_true (kw.2 k'.1 (List.mem_map.mpr ⟨k', List.mem_of_getElem? hki, rfl⟩)).2
      refine ⟨_, rfl, _, rfl, _, _, rfl, rfl, ?_⟩
      show N (.bl (decide (k'.1 < w))) H'
      rw [this]
      exact kN H' (Evl.Ex.refl _)
    intro H2 e2 d2
    refine ⟨D, ks.map fun _ => true, rfl, sqI d2, ?_⟩
    have : (ks.map fun _ => true).all id = true := by simp
    rw [this]
    exact k H2 (e1.trans e2)
theorem ok_need_sorting (T : Txt K mg) : FnOk PR w K mg base (L2.CX PR w) 3 T.a_need_sorting T.d_need_sorting ["width", "sorting"] (sp_need_sorting K) := by
  refine T.f_need_sorting.okX sc_need_sorting (fun vs H Q E h => ?_) (fun cdv A outer s H vs Q E hr h => ?_)
  · obtain ⟨w, p, ks, rfl, _⟩ := h
    rfl
  · obtain ⟨w, p, ks, rfl, hq, hl, kw, k⟩ := h
    refine ⟨_, (pss_one (ps_if (pt_not (pt_val (pe_call (ok_is_sorting_of T) (hr.mono (by decide)) (by rfl) T.g_is_sorting_of T.f_is_sorting_of.kp (b_is_sorting_of T) .nil pass0 (pa_cons (pv 0) (pa_cons (pv 1) pa_nil))))) (pss_one (ps_raise rfl (takes_of rfl rfl rfl rfl) (pmk_err (ok_init T) (b_init T) T.e_InvalidSorting (hr.mono (by decide)) (by rfl) T.g_InvalidSorting (pa_cons (pe_callTy call_listG (by rfl) T.z_list (by decide +kernel) (pa_cons (pv 1) pa_nil)) pa_nil)))) pss_nil)), ?_⟩
    refine ⟨_, rfl, _, rfl, w, p, ks, rfl, hq, hl, kw, fun H1 e1 => ?_⟩
    exact ⟨_, rfl, ifF rfl (k H1 e1)⟩
theorem ok_need_width (T : Txt K mg) : FnOk PR w K mg base (L2.CX PR w) 3 T.a_need_width T.d_need_width ["width"] sp_need_width := by
  refine T.f_need_width.okX sc_need_width (fun vs H Q E h => ?_) (fun cdv A outer s H vs Q E hr h => ?_)
  · obtain ⟨w, rfl, _⟩ := h
    rfl
  · obtain ⟨w, rfl, hw, k⟩ := h
    refine ⟨_, (pss_one (ps_if (pt_cmpR op_lt (pv 0) pe_int (nomark _)) (pss_one (ps_raise rfl (takes_of rfl rfl rfl rfl) (pmk_err (ok_init T) (b_init T) T.e_InvalidNumber (hr.mono (by decide)) (by rfl) T.g_InvalidNumber (pa_cons (pv 0) pa_nil)))) pss_nil)), ?_⟩
    exact ⟨_, rfl, _, _, rfl, rfl, _, rfl, ifF (decide_eq_false (by omega)) k⟩
end
end K10
set_option Elab.async false
set_option pp.maxSteps 1200
set_option linter.all false
set_option maxRecDepth 100000
set_option maxHeartbeats 4000000
namespace K10
open PySem L2 My
/-- a list of keys, new since H0, not at F -/
def LsY (K : PySem.W.Frag) (H0 : Hp) (F : Addr) (H : Hp) (v : V) (ks : List Ky) : Prop := ∃ p, v = .ref p ∧ H0 p = none ∧ p ≠ F ∧ LsK K H p ks
/-- .. at neither F nor G -/
def LsZ (K : PySem.W.Frag) (H0 : Hp) (F G : Addr) (H : Hp) (v : V) (ks : List Ky) : Prop := ∃ p, v = .ref p ∧ H0 p = none ∧ p ≠ F ∧ p ≠ G ∧ LsK K H p ks
theorem LsZ.keepG {K : PySem.W.Frag} {H0 : Hp} {F G : Addr} {H H' : Hp} {v : V} {ks : List Ky} {ys : List V} (e : Exj G H H') (hG : H G = some (.lst ys)) : LsZ K H0 F G H v ks → LsZ K H0 F G H' v ks
  | ⟨p, a, n, b, c, h⟩ => ⟨p, a, n, b, c, h.exj e c hG⟩
theorem LsZ.keepF {K : PySem.W.Frag} {H0 : Hp} {F G : Addr} {H H' : Hp} {v : V} {ks : List Ky} {ys : List V} (e : Exj F H H') (hF : H F = some (.lst ys)) : LsZ K H0 F G H v ks → LsZ K H0 F G H' v ks
  | ⟨p, a, n, b, c, h⟩ => ⟨p, a, n, b, c, h.exj e b hF⟩
theorem LsZ.ex {K : PySem.W.Frag} {H0 : Hp} {F G : Addr} {H H' : Hp} {v : V} {ks : List Ky} (e : Ex H H') : LsZ K H0 F G H v ks → LsZ K H0 F G H' v ks
  | ⟨p, a, n, b, c, h⟩ => ⟨p, a, n, b, c, h.ex e⟩
theorem LsY.z {K : PySem.W.Frag} {H0 : Hp} {F G : Addr} {H H' : Hp} {v : V} {ks : List Ky} (n : H G = none) (e : Ex H H') : LsY K H0 F H v ks → LsZ K H0 F G H' v ks
  | ⟨p, a, m, b, us, h1, h2⟩ => ⟨p, a, m, b, ne_of_none h1 n, LsK.ex ⟨us, h1, h2⟩ e⟩
theorem LsZ.x {K : PySem.W.Frag} {H0 : Hp} {F G : Addr} {H : Hp} {v : V} {ks : List Ky} : LsZ K H0 F G H v ks → LsY K H0 F H v ks
  | ⟨p, a, n, b, c, h⟩ => ⟨p, a, n, b, h⟩
/-- a new list of keys -/
def LsN (K : PySem.W.Frag) (H0 H : Hp) (v : V) (ks : List Ky) : Prop := ∃ p, v = .ref p ∧ H0 p = none ∧ LsK K H p ks
theorem LsN.ex {K : PySem.W.Frag} {H0 H H' : Hp} {v : V} {ks : List Ky} (e : Ex H H') : LsN K H0 H v ks → LsN K H0 H' v ks
  | ⟨p, a, b, h⟩ => ⟨p, a, b, h.ex e⟩
theorem LsN.exj {K : PySem.W.Frag} {H0 H H' : Hp} {D : Addr} {v : V} {ks : List Ky} {ys : List V} (e : Exj D H H') (hD : H D = some (.lst ys)) (n : ∀ p, v = .ref p → p ≠ D) : LsN K H0 H v ks → LsN K H0 H' v ks
  | ⟨p, a, b, h⟩ => ⟨p, a, b, h.exj e (n p a) hD⟩
def sp_all_sortings (K : PySem.W.Frag) : Sp := fun vs H Q _ => ∃ (w : Nat), vs = [.int (w : Nat)] ∧ 1 ≤ w ∧ w ≤ 3 ∧ ∀ p H' us, H p = none → Ex H H' → H' p = some (.lst us) → AllR (LsN K H H') us (everyL w) → Q (.ref p) H'
/-- a list of keys, not at D -/
def LsD (K : PySem.W.Frag) (H0 : Hp) (D : Addr) (H : Hp) (v : V) (ks : List Ky) : Prop := ∃ p, v = .ref p ∧ H0 p = none ∧ p ≠ D ∧ LsK K H p ks
theorem LsD.ex {K : PySem.W.Frag} {H0 H H' : Hp} {D : Addr} {v : V} {ks : List Ky} (e : Ex H H') : LsD K H0 D H v ks → LsD K H0 D H' v ks
  | ⟨p, a, b, c, h⟩ => ⟨p, a, b, c, h.ex e⟩
theorem LsD.exj {K : PySem.W.Frag} {H0 H H' : Hp} {D : Addr} {v : V} {ks : List Ky} {ys : List V} (e : Exj D H H') (hD : H D = some (.lst ys)) : LsD K H0 D H v ks → LsD K H0 D H' v ks
  | ⟨p, a, b, c, h⟩ => ⟨p, a, b, c, h.exj e c hD⟩
section
variable {w : World} {K : PySem.W.Frag} {mg : Str → Option Value} {base : Heap}
theorem ok_all_sortings (T : Txt K mg) : FnOk PR w K mg base CX0 1 T.a_all_sortings T.d_all_sortings ["width"] (sp_all_sortings K) := by
  refine T.f_all_sortings.ok sc_all_sortings (fun vs H Q E h => ?_) (fun cdv A outer s H vs Q E hr h => ?_)
  · obtain ⟨w, rfl, _⟩ := h
    rfl
  · obtain ⟨w, rfl, w1, w3, k⟩ := h
    refine ⟨_, (pss_cons (ps_par (by rfl) sc_all_sortings.nd rfl rfl (by decide) rfl rfl (i := 1) (j := 2) (pa_cons (pe_lstG (pa_cons (pe_lstG pa_nil) pa_nil)) (pa_cons (pe_lstG (pa_cons (pe_lstG pa_nil) pa_nil)) pa_nil)) (by rfl)) (pss_cons (ps_for PassesOwn.never rfl (pi_range1 (by rfl) T.z_range (pa_cons (pv 0) pa_nil)) (pg_name (i := 3) sc_all_sortings.nd rfl (by first | exact Or.inl rfl | exact Or.inr rfl)) (pss_cons (ps_set (i := 4) sc_all_sortings.nd rfl (by first | exact Or.inl rfl | exact Or.inr rfl) (pe_lstG pa_nil)) (pss_cons (ps_for PassesOwn.never rfl (pi_list (pv 2)) (pg_name (i := 5) sc_all_sortings.nd rfl (by first | exact Or.inl rfl | exact Or.inr rfl)) (pss_cons (ps_set (i := 6) sc_all_sortings.nd rfl (by first | exact Or.inl rfl | exact Or.inr rfl) (pe_lc (own := [("column", 8), ("sign", 9)]) (g := (gTup K 2 (gCons (gName 8) (gCons (gName 9) gNil)))) (by rfl) sc_all_sortings.nd (pi_list (pv 5)) (blkOk_by (own := [("column", 8), ("sign", 9)]) (N := ["width", "found", "layer", "turn", "longer", "keys", "used", "left", "column", "sign"]) (sc := (defScope s_all_sortings)) (by decide +kernel)) (fun _ _ _ _ _ => (pg_tup rfl (pgs_cons (pg_name (i := 8) sc_all_sortings.nd rfl (by first | exact Or.inl rfl | exact Or.inr rfl)) (pgs_cons (pg_name (i := 9) sc_all_sortings.nd rfl (by first | exact Or.inl rfl | exact Or.inr rfl)) pgs_nil)))) (fun _ _ _ _ _ => pts_nil) (fun _ _ _ _ _ => (pv 8)))) (pss_cons (ps_setLc (i := 7) (own := [("column", 8)]) (g := gName 8) (by rfl) sc_all_sortings.nd rfl rfl (sw_true rfl rfl rfl (by decide +kernel)) (pi_range1 (by rfl) T.z_range (pa_cons (pv 0) pa_nil)) (blkOk_by (own := [("column", 8)]) (N := ["width", "found", "layer", "turn", "longer", "keys", "used", "left", "column", "sign"]) (sc := (defScope s_all_sortings)) (by decide +kernel)) (fun _ _ _ _ _ => (pg_name (i := 8) sc_all_sortings.nd rfl (by first | exact Or.inl rfl | exact Or.inr rfl))) (fun _ _ _ _ _ => (pts_one (pt_cmpR (opK (r := fun K => rIn K true) (K := K) (by rfl) op_notIn_seq) (pv 8) (pv 6) (by rfl)))) (fun _ _ _ _ _ => (pv 8))) (pss_one (ps_expr (pe_bm PySem.F.plainAttrs_list PySem.F.slot_list_extend PySem.F.type_list_extend mt_extend (pv 4) (pa_cons (pe_lc2 (own := [("column", 8), ("sign", 9)]) (vs1 := [9]) (g := (gName 8)) (g1 := (gName 9)) (by rfl) sc_all_sortings.nd (pi_list (pv 7)) (blkOk_by (own := [("column", 8), ("sign", 9)]) (N := ["width", "found", "layer", "turn", "longer", "keys", "used", "left", "column", "sign"]) (sc := (defScope s_all_sortings)) (by decide +kernel)) (by decide) (fun _ _ _ _ _ => (pg_name (i := 8) sc_all_sortings.nd rfl (by first | exact Or.inl rfl | exact Or.inr rfl))) (fun _ _ _ _ _ => pts_nil) (fun _ _ _ _ _ => (piK (r := iTup) (K := K) (by rfl) (pi_tup (pe_tupG (pa_cons (pe_un un_neg pe_int) (pa_cons pe_int pa_nil)))))) (fun _ _ _ _ _ => (pg_name (i := 9) sc_all_sortings.nd rfl (by first | exact Or.inl rfl | exact Or.inr rfl))) (fun _ _ _ _ _ => pts_nil) (fun _ _ _ _ _ => (pe_op op_catG (pv 5) (pe_lstG (pa_cons (pe_tupG (pa_cons (pv 8) (pa_cons (pv 9) pa_nil))) pa_nil))))) pa_nil))))))) (pss_cons (ps_set (i := 2) sc_all_sortings.nd rfl (by first | exact Or.inl rfl | exact Or.inr rfl) (pe_callTy call_listG (by rfl) T.z_list (by decide +kernel) (pa_cons (pv 4) pa_nil))) (pss_one (ps_expr (pe_bm PySem.F.plainAttrs_list PySem.F.slot_list_extend PySem.F.type_list_extend mt_extend (pv 1) (pa_cons (pv 4) pa_nil)))))))) (pss_one (ps_ret (pv 1))))), ?_⟩
    refine ⟨(by show 0 ≤ sizeLine; decide), fun p1 H1 n1 e1 h1 => ?_⟩
    refine ⟨(by show 1 ≤ sizeLine; decide), fun F H2 n2 e2 h2 => ?_⟩
    refine ⟨(by show 0 ≤ sizeLine; decide), fun p3 H3 n3 e3 h3 => ?_⟩
    refine ⟨(by show 1 ≤ sizeLine; decide), fun L0 H4 n4 e4 h4 => ?_⟩
    have e34 := e3.trans e4
    have e14 := e2.trans e34
    have nF : H F = none := none_of e1 n2
    have nL0F : L0 ≠ F := (ne_of_none (e3 _ _ h2) n4).symm
    have n1F : p1 ≠ F := ne_of_none h1 n2
    have n3F : p3 ≠ F := (ne_of_none h2 n3).symm
    refine ⟨_, _, rfl, ?_⟩
    refine ⟨_, rfl, _, rfl, by omega, by omega, for_range (lo := 0) (n := ((w : Nat) : Int).toNat) (fun i σ H' => ∃ (L : Addr) (us ls : List V) (v3 v4 v5 v6 v7 v8 v9 : Option V), σ = [some (.int (w : Nat)), some (.ref F), some (.ref L), v3, v4, v5, v6, v7, v8, v9] ∧ Ex H H' ∧ H' F = some (.lst us) ∧ H' L = some (.lst ls) ∧ L ≠ F ∧ AllR (LsY K H F H') us (everyN w i) ∧ AllR (LsY K H F H') ls (layerL w i)) ⟨L0, [.ref p1], [.ref p3], _, _, _, _, _, _, _, rfl, e1.trans e14, e34 _ _ h2, h4, nL0F, ?_, AllR.one ⟨p3, rfl, none_of (e1.trans e2) n3, n3F, [], e4 _ _ h3, AllR.nil⟩⟩ ?_ ?_⟩
    · have : everyN w 0 = [[]] := by simp [everyN, List.range_succ, layerL]
      rw [this]
      exact AllR.one ⟨p1, rfl, n1, n1F, [], e14 _ _ h1, AllR.nil⟩
    · rintro i σ H5 hi ⟨L, us, ls, v3, v4, v5, v6, v7, v8, v9, rfl, e5, hF, hL, nLF, aF, aL⟩
      refine ⟨(by show 0 ≤ sizeLine; decide), fun G H6 nG e6 hG => ?_⟩
      have lF := aF.1
      have lL := aL.1
      have b1 := every_le w3 i (by omega)
      have b2 := layer_le (w := w) (n := i) w3 (by omega)
      have nLG : L ≠ G := ne_of_none hL nG
      have nFG : F ≠ G := ne_of_none hF nG
      have aF6 : AllR (LsZ K H F G H6) us (everyN w i) := aF.mono fun v x r => r.z nG e6
      have aL6 : AllR (LsZ K H F G H6) ls (layerL w i) := aL.mono fun v x r => r.z nG e6
      have hF6 := e6 _ _ hF
      refine ⟨_, rfl, L, rfl, ⟨_, sqI (e6 _ _ hL)⟩, for_it (walk_list (K := K) (a := L) (xs := ls)) (fun i2 σ H' => ∃ (gs : List V) (u3 u5 u6 u7 u8 u9 : Option V), σ = [some (.int (w : Nat)), some (.ref F), some (.ref L), u3, some (.ref G), u5, u6, u7, u8, u9] ∧ Exj G H6 H' ∧ H' G = some (.lst gs) ∧ AllR (LsZ K H F G H') gs (((layerL w i).take i2).flatMap (nextL w)) ∧ gs.length ≤ 6 * i2) ⟨[], _, _, _, _, _, _, rfl, Exj.refl _ _, hG, AllR.nil, by show 0 ≤ _; omega⟩ ?_ ?_ ?_⟩
      · rintro i2 σ H' _ ⟨gs, u3, u5, u6, u7, u8, u9, _, e, _⟩
        exact sqI (e _ _ nLG (e6 _ _ hL))
      · rintro i2 v σ HX H7 hi2 ⟨gs, u3, u5, u6, u7, u8, u9, rfl, e7, g7, a7, l7⟩ ⟨rfl, hv⟩
        obtain ⟨ks, hks, r⟩ := aL6.get hv
        obtain ⟨q, rfl, _, nqF, nq, hq⟩ := r.keepG e7 hG
        obtain ⟨uk, hu, hk⟩ := id hq
        have ul := hk.1
        have ksl := layer_size w i ks (List.mem_of_getElem? hks)
        refine ⟨_, rfl, q, rfl, ⟨_, sqI hu⟩, fun U nU => lc_mapG (K := K) (a := q) (ys := (cols ks).map V.int) (sqI hu) nU (by simp [cols, ul]) ?_ ?_ ?_⟩
        · have := ksl
          exact Nat.le_trans (show _ ≤ 3 by omega) (by decide)
        · intro i' x y H' e' hx hy N Z kN
          obtain ⟨k', hki, q', rfl, hq'⟩ := hk.get hx
          have hy' : (cols ks)[i']? = some k'.1 := by unfold cols; rw [List.getElem?_map, hki]; rfl
          rw [List.getElem?_map, hy'] at hy
          cases hy
          refine ⟨_, _, rfl, Evl.ex_t e' hq', rfl, _, _, rfl, _, _, rfl, rfl, rfl, ?_⟩
          show _
          exact ⟨_, rfl, kN H' (Evl.Ex.refl _)⟩
        intro H8 e8 d8
        refine ⟨_, rfl, _, rfl, by omega, by omega, fun C nC => lc_filtR (p := fun c => !decide (c ∈ cols ks)) nC (show w ≤ 1000 by omega) (fun x => rfl) ?_ ?_ ?_⟩
        · intro c H' hc e' Z kZ
          refine ⟨_, rfl, _, rfl, _, _, rfl, .inl (sqI (e' _ _ d8)), rfl, flatI _, _, rfl, ?_⟩
          rw [inV_int]
          exact kZ H' (Evl.Ex.refl _)
        · intro v H' N kN
          exact ⟨_, rfl, kN⟩
        intro H9 e9 d9
        have d9 : H9 C = some (.lst ((free w ks).map V.int)) := d9
        have e79 := e8.trans e9
        have g9 := e79 _ _ g7
        have y9 : Exj G H6 H9 := e7.trans (Exj.of e79)
        have a9 : AllR (LsZ K H F G H9) gs (((layerL w i).take i2).flatMap (nextL w)) := a7.mono fun v x r => r.ex e79
        have fl := free_len w ks
        have i2l : i2 ≤ 216 := by omega
        refine st_eq (σ' := [some (.int (w : Nat)), some (.ref F), some (.ref L), u3, some (.ref G), some (.ref q), some (.ref U), u7, u8, u9]) (P := fun σ => gName 7 (V.ref C) σ H9 _) rfl ?_
        -- longer.extend(..)
        refine ⟨_, rfl, .inl ⟨rfl, _, sqI g9⟩, _, rfl, C, rfl, ⟨_, sqI d9⟩, fun D nD => lc2_out (walk_list (K := K) (a := C) (xs := (free w ks).map V.int)) (fun i3 H' => ∃ ds : List V, Ex H9 H' ∧ H' D = some (.lst ds) ∧ AllR (LsD K H9 D H') ds (((free w ks).take i3).flatMap (both ks)) ∧ ds.length = 2 * i3) ⟨[], Evl.Ex.new nD, upd_same, AllR.nil, rfl⟩ ?_ ?_ ?_⟩
        · rintro i3 H' _ ⟨ds, e, _⟩
          exact sqI (e _ _ d9)
        · rintro i3 x HX K1 hi3 ⟨ds, x1, d1, a1, l1⟩ ⟨rfl, hv⟩
          obtain ⟨c, hc, rfl⟩ := mapI_get hv
          have hi3 : i3 < (free w ks).length := by simpa using hi3
          refine ⟨rfl, ?_⟩
          show _
          refine ⟨_, rfl, (by show 2 ≤ sizeLine; decide), fun t1 K2 m2 x2 h2 => ?_⟩
          have t1D : t1 ≠ D := (ne_of_none d1 m2).symm
          refine ⟨t1, rfl, ⟨_, sqT h2⟩, lc2_in (walk_tup (K := K) (a := t1) (xs := [V.int (-1), V.int 1])) (fun j H' => ∃ ds : List V, Ex H9 H' ∧ H' t1 = some (.tup [V.int (-1), V.int 1]) ∧ H' D = some (.lst ds) ∧ AllR (LsD K H9 D H') ds (((free w ks).take i3).flatMap (both ks) ++ (both ks c).take j) ∧ ds.length = 2 * i3 + j) ⟨ds, x1.trans x2, h2, x2 _ _ d1, ?_, l1⟩ ?_ ?_ ?_⟩
          · show AllR _ ds (_ ++ [])
            rw [List.append_nil]
            exact a1.mono fun v x r => r.ex x2
          · rintro j H' _ ⟨ds, e, ht, _⟩
            exact sqT ht
          · rintro j x HX K3 hj ⟨ds, x3, ht3, d3, a3, l3⟩ ⟨rfl, hx⟩
            obtain ⟨sg, hsg, hb⟩ : ∃ sg : Int, x = .int sg ∧ (both ks c)[j]? = some (ks ++ [(c, sg)]) := by
              have hj : j < 2 := hj
              rcases (show j = 0 ∨ j = 1 by omega) with z | z
              · subst z
                exact ⟨-1, (Option.some.inj hx).symm, rfl⟩
              · subst z
                exact ⟨1, (Option.some.inj hx).symm, rfl⟩
            subst hsg
            refine ⟨rfl, ?_⟩
            show _
            have hk3 := hk.ex (e79.trans x3)
            have hu3 := (e79.trans x3) _ _ hu
            have hj : j < 2 := hj
            refine ⟨_, rfl, _, rfl, _, rfl, (by show 2 ≤ sizeLine; decide), fun t4 K4 m4 x4 h4 => ?_⟩
            refine ⟨(by show 1 ≤ sizeLine; decide), fun t5 K5 m5 x5 h5 => ?_⟩
            refine ⟨_, _, _, _, rfl, rfl, (x4.trans x5) _ _ hu3, h5, ?_, fun t6 K6 m6 x6 h6 => ?_⟩
            · exact Nat.le_trans (show uk.length + 1 ≤ 10 by omega) (by decide)
            have x36 := x4.trans (x5.trans x6)
            have d6 := x36 _ _ d3
            have n6D : t6 ≠ D := (ne_of_none ((x4.trans x5) _ _ d3) m6).symm
            have m69 : H9 t6 = none := none_of (x3.trans (x4.trans x5)) m6
            have ej : Exj D K6 (upd K6 D (.lst (ds ++ [.ref t6]))) := (Exj.refl _ _).upd
            refine ⟨ds, d6, Nat.lt_of_lt_of_le (show ds.length < 1000 by omega) (by decide), ds ++ [.ref t6], Evl.Ex.mut (x3.trans x36) nD, ?_, upd_same, ?_, by rw [List.length_append]; show _ + 1 = _; omega⟩
            · rw [upd_ne t1D]
              exact x36 _ _ ht3
            · rw [take_snoc hb, ← List.append_assoc]
              refine AllR.snoc (a3.mono fun v x r => (r.ex x36).exj ej d6) ⟨t6, rfl, m69, n6D, LsK.exj (ys := ds) ⟨uk ++ [.ref t4], h6, ?_⟩ ej n6D d6⟩
              exact AllR.snoc (hk3.ex x36) ⟨t4, rfl, sqT ((x5.trans x6) _ _ h4)⟩
          · rintro H' ⟨ds, e, ht, d, a, l⟩
            refine ⟨ds, e, d, ?_, by have l : ds.length = 2 * i3 + 2 := l; omega⟩
            have a : AllR (LsD K H9 D H') ds (((free w ks).take i3).flatMap (both ks) ++ (both ks c).take 2) := a
            rw [take_snoc hc, List.flatMap_append]
            have e1 : (both ks c).take 2 = both ks c := rfl
            have e2 : [c].flatMap (both ks) = both ks c := by simp
            rw [e2, ← e1]
            exact a
        · rintro K1 ⟨ds, x1, d1, a1, l1⟩
          rw [List.length_map, List.take_length, ← nextL_free] at a1
          rw [List.length_map] at l1
          have g1 := x1 _ _ g9
          have ej : Exj G K1 (upd K1 G (.lst (gs ++ ds))) := (Exj.refl _ _).upd
          refine ⟨_, _, _, _, rfl, rfl, g1, d1, ?_, ?_⟩
          · exact Nat.le_trans (show gs.length + ds.length ≤ 3000 by omega) (by decide)
          refine ⟨gs ++ ds, _, _, _, _, _, _, rfl, y9.trans ((Exj.of x1).trans ej), upd_same, ?_, by rw [List.length_append]; omega⟩
          rw [take_snoc hks, List.flatMap_append]
          have e2 : [ks].flatMap (nextL w) = nextL w ks := by simp
          rw [e2]
          refine AllR.append (a9.mono fun v x r => (r.ex x1).keepG ej g1) (a1.mono fun v x ⟨p, hp, hn, _, hl⟩ => ?_)
          have hF9 := y9 _ _ nFG hF6
          have pG : p ≠ G := (ne_of_none g9 hn).symm
          have pF : p ≠ F := (ne_of_none hF9 hn).symm
          have n09 : Ex H H9 := fun b o hb => y9 _ _ (ne_of_none hb (none_of e5 nG)) (e6 _ _ (e5 _ _ hb))
          exact ⟨p, hp, none_of n09 hn, pF, pG, hl.exj ej pG g1⟩
      · rintro σ H7 ⟨gs, u3, u5, u6, u7, u8, u9, rfl, e7, g7, a7, l7⟩
        rw [show (layerL w i).take ls.length = layerL w i by rw [lL]; exact List.take_length] at a7
        have a7 : AllR (LsZ K H F G H7) gs (layerL w (i + 1)) := a7
        have f7 := e7 _ _ nFG hF6
        have lg : gs.length ≤ 6 * 216 := by omega
        have nG0 : H G = none := none_of e5 nG
        have all7 : Ex H H7 := fun b o hb => e7 _ _ (ne_of_none hb nG0) (e6 _ _ (e5 _ _ hb))
        refine ⟨_, rfl, G, _, rfl, .inl (sqI g7), fun L' H8 n8 e8 h8 => ?_⟩
        have f8 := e8 _ _ f7
        have nL'F : L' ≠ F := (ne_of_none f7 n8).symm
        have ej : Exj F H8 (upd H8 F (.lst (us ++ gs))) := (Exj.refl _ _).upd
        refine ⟨_, rfl, .inl ⟨rfl, _, sqI f8⟩, _, rfl, _, _, _, _, rfl, rfl, f8, e8 _ _ g7, ?_, ?_⟩
        · exact Nat.le_trans (show us.length + gs.length ≤ 5000 by omega) (by decide)
        refine ⟨L', us ++ gs, gs, _, _, _, _, _, _, _, rfl, Evl.Ex.mut (all7.trans e8) nF, upd_same, ?_, nL'F, ?_, ?_⟩
        · rw [upd_ne nL'F]
          exact h8
        · rw [everyN_succ]
          refine AllR.append (aF6.mono fun v x r => ?_) (a7.mono fun v x r => ((r.ex e8).keepF ej f8).x)
          exact (((r.keepG e7 hG).ex e8).keepF ej f8).x
        · exact a7.mono fun v x r => ((r.ex e8).keepF ej f8).x
    · rintro σ H5 ⟨L, us, ls, v3, v4, v5, v6, v7, v8, v9, rfl, e5, hF, hL, nLF, aF, aL⟩
      exact ⟨_, rfl, k F H5 us nF e5 hF (aF.mono fun v x ⟨p, a, n, _, h⟩ => ⟨p, a, n, h⟩)⟩
end
end K10
set_option Elab.async false
set_option pp.maxSteps 1200
set_option linter.all false
set_option maxRecDepth 100000
set_option maxHeartbeats 4000000
namespace K10
open PySem L2 My
/-- a form whose keys are a new list -/
def FmN (K : PySem.W.Frag) (H0 H : Hp) (v : V) (f : Fm) : Prop := ∃ p q, v = .ref p ∧ H0 q = none ∧ H p = some (.tup [.ref q, .bl f.2]) ∧ LsK K H q f.1
theorem FmN.r {K : PySem.W.Frag} {H0 H : Hp} {v : V} {f : Fm} : FmN K H0 H v f → FmR K H v f
  | ⟨p, q, a, _, b, c⟩ => ⟨p, q, a, b, c⟩
theorem FmN.ex {K : PySem.W.Frag} {H0 H H' : Hp} {v : V} {f : Fm} (e : Ex H H') : FmN K H0 H v f → FmN K H0 H' v f
  | ⟨p, q, a, n, b, c⟩ => ⟨p, q, a, n, e _ _ b, c.ex e⟩
theorem FmN.old {K : PySem.W.Frag} {H00 H0 H : Hp} {v : V} {f : Fm} (e : Ex H00 H0) : FmN K H0 H v f → FmN K H00 H v f
  | ⟨p, q, a, n, b, c⟩ => ⟨p, q, a, none_of e n, b, c⟩
def sp_made_formN (K : PySem.W.Frag) : Sp := fun vs H Q _ => ∃ (a : Addr) (cs : List Int), vs = [.ref a] ∧ SqL K H a (cs.map V.int) ∧ cs.length ≤ 500 ∧ ∀ v H', Ex H H' → FmN K H H' v (formL cs) → Q v H'
def sp_joined_form (K : PySem.W.Frag) : Sp := fun vs H Q _ => ∃ (v u : V) (f g : Fm), vs = [v, u] ∧ FmR K H v f ∧ FmR K H u g ∧ f.1.length ≤ 200 ∧ g.1.length ≤ 200 ∧ (g.2 = true → g.1 ≠ []) ∧ ∀ v' H', Ex H H' → FmN K H H' v' (joinL f g) → Q v' H'
def sp_joined (K : PySem.W.Frag) : Sp := fun vs H Q _ => ∃ (v u : V) (f g : Fm), vs = [v, u] ∧ FmR K H v f ∧ FmR K H u g ∧ f.1.length ≤ 200 ∧ g.1.length ≤ 200 ∧ (g.2 = true → g.1 ≠ []) ∧ hasForm f = true ∧ hasForm g = true ∧ ∀ v' H', Ex H H' → FmN K H H' v' (joinL f g) → Q v' H'
def sp_shortest_clicks (K : PySem.W.Frag) : Sp := fun vs H Q _ => ∃ (v : V) (f : Fm), vs = [v] ∧ FmR K H v f ∧ f.1.length ≤ 200 ∧ (f.1.length = 1 → f.2 = true) ∧ New (.lst ((shortL f).map V.int)) H Q
def sp_clicks_for (K : PySem.W.Frag) : Sp := fun vs H Q _ => ∃ (v : V) (f : Fm), vs = [v] ∧ FmR K H v f ∧ f.1.length ≤ 200 ∧ hasForm f = true ∧ (f.1.length = 1 → f.2 = true) ∧ New (.lst ((shortL f).map V.int)) H Q
def sp_repeated (K : PySem.W.Frag) : Sp := fun vs H Q _ => ∃ (v : V) (f : Fm) (t : Nat), vs = [v, .int (t : Nat)] ∧ FmR K H v f ∧ f.1.length ≤ 200 ∧ hasForm f = true ∧ (t : Int) < 2 ^ 300 ∧ ∀ v' H', Ex H H' → FmN K H H' v' (repL f t) → Q v' H'
theorem minI_spec : ∀ (r : List Int) (x : Int), (r.foldl min x) ∈ x :: r ∧ ∀ y ∈ x :: r, r.foldl min x ≤ y
  | [], x => ⟨List.mem_singleton.mpr rfl, fun y hy => by rw [List.mem_singleton.mp hy]; exact Int.le_refl _⟩
  | z :: r, x => by
    have ih := minI_spec r (min x z)
    show (r.foldl min (min x z)) ∈ _ ∧ _
    have m : min x z = x ∨ min x z = z := by omega
    refine ⟨?_, fun y hy => ?_⟩
    · rcases List.mem_cons.mp ih.1 with h | h
      · rw [h]
        rcases m with e | e <;> rw [e] <;> simp
      · exact List.mem_cons_of_mem _ (List.mem_cons_of_mem _ h)
    · show r.foldl min (min x z) ≤ y
      have h0 := ih.2 (min x z) List.mem_cons_self
      rcases List.mem_cons.mp hy with h | h
      · rw [h]; omega
      · rcases List.mem_cons.mp h with h | h
        · rw [h]; omega
        · exact ih.2 y (List.mem_cons_of_mem _ h)
theorem minI_eq {ns : List Int} {m : Int} (h : m ∈ ns) (l : ∀ y ∈ ns, m ≤ y) : m = minI ns := by
  cases ns with
  | nil => cases h
  | cons x r =>
    have s := minI_spec r x
    have h1 := l _ s.1
    have h2 := s.2 _ h
    show m = r.foldl min x
    omega
theorem run_len (k : Ky) : (runK k).length ≤ 2 := by
  unfold runK
  rw [List.length_replicate]
  split <;> omega
theorem runs_len : ∀ ks : List Ky, (ks.flatMap runK).length ≤ 2 * ks.length
  | [] => Nat.le_refl _
  | k :: r => by
    have := runs_len r
    have := run_len k
    rw [List.flatMap_cons, List.length_append, List.length_cons]
    omega
theorem short_le (f : Fm) : (shortL f).length ≤ 2 * f.1.length + 1 := by
  unfold shortL firstL runsL
  have := runs_len f.1.reverse
  rw [List.length_reverse] at this
  rw [List.length_append]
  split
  · show 1 + _ ≤ _
    omega
  · show 0 + _ ≤ _
    omega
section
variable {w : World} {K : PySem.W.Frag} {mg : Str → Option Value} {base : Heap}
theorem ok_made_formN (T : Txt K mg) : FnOk PR w K mg base CX0 3 T.a_made_form T.d_made_form ["clicks"] (sp_made_formN K) := by
  refine T.f_made_form.ok sc_made_form (fun vs H Q E h => ?_) (fun cdv A outer s H vs Q E hr h => ?_)
  · obtain ⟨a, cs, rfl, _⟩ := h
    rfl
  · obtain ⟨a, cs, rfl, ha, hl, k⟩ := h
    refine ⟨_, (pss_one (ps_ret (pe_tupG (pa_cons (pe_call (ok_after_clicks T) (hr.mono (by decide)) (by rfl) T.g_after_clicks T.f_after_clicks.kp (b_after_clicks T) .nil pass0 (pa_cons (pe_lstG pa_nil) (pa_cons (pv 0) pa_nil))) (pa_cons (pe_call (ok_is_left_alone T) (hr.mono (by decide)) (by rfl) T.g_is_left_alone T.f_is_left_alone.kp (b_is_left_alone T) .nil pass0 (pa_cons (pv 0) pa_nil)) pa_nil))))), ?_⟩
    refine ⟨(by show 0 ≤ sizeLine; decide), fun p1 H1 n1 e1 h1 => ?_⟩
    refine ⟨_, rfl, p1, a, [], cs, rfl, ⟨[], h1, AllR.nil⟩, Evl.ex_l e1 ha, by simpa using hl, fun q H2 n2 e2 h2 => ?_⟩
    refine ⟨_, rfl, a, cs, rfl, Evl.ex_l (e1.trans e2) ha, hl, fun H3 e3 => ?_⟩
    refine ⟨(by show 2 ≤ sizeLine; decide), fun p4 H4 n4 e4 h4 => ?_⟩
    exact k _ H4 (e1.trans (e2.trans (e3.trans e4))) ⟨p4, q, rfl, none_of e1 n2, h4, h2.ex (e3.trans e4)⟩
theorem ok_joined_form (T : Txt K mg) : FnOk PR w K mg base CX0 3 T.a_joined_form T.d_joined_form ["one", "other"] (sp_joined_form K) := by
  refine T.f_joined_form.ok sc_joined_form (fun vs H Q E h => ?_) (fun cdv A outer s H vs Q E hr h => ?_)
  · obtain ⟨v, u, f, g, rfl, _⟩ := h
    rfl
  · obtain ⟨v, u, ⟨ks, b⟩, ⟨gs, c⟩, rfl, hf, hg, fl, gl, gb, k⟩ := h
    refine ⟨_, (pss_cons (ps_if (pt_cmpR (op_eqD hr.units) (pe_ix ix_tup (pv 0) pe_int (fun _ _ => rfl)) (pe_lstG pa_nil) (nomark _)) (pss_one (ps_ret (pe_tupG (pa_cons (pe_callTy call_listG (by rfl) T.z_list (by decide +kernel) (pa_cons (pe_ix ix_tup (pv 1) pe_int (fun _ _ => rfl)) pa_nil)) (pa_cons (pe_ix ix_tup (pv 1) pe_int (fun _ _ => rfl)) pa_nil))))) pss_nil) (pss_cons (ps_asg (pv 0) (pg_tup rfl (pgs_cons (pg_name (i := 2) sc_joined_form.nd rfl (by first | exact Or.inl rfl | exact Or.inr rfl)) (pgs_cons (pg_name (i := 3) sc_joined_form.nd rfl (by first | exact Or.inl rfl | exact Or.inr rfl)) pgs_nil)))) (pss_cons (ps_set (i := 4) sc_joined_form.nd rfl (by first | exact Or.inl rfl | exact Or.inr rfl) (pe_ix ix_tup (pe_ix ix_list (pv 2) (pe_un un_neg pe_int) (fun _ _ => rfl)) pe_int (fun _ _ => rfl))) (pss_cons (ps_set (i := 5) sc_joined_form.nd rfl (by first | exact Or.inl rfl | exact Or.inr rfl) (pe_cmpR op_notIn_seq (pv 4) (pe_call (ok_columns_of T) (hr.mono (by decide)) (by rfl) T.g_columns_of T.f_columns_of.kp (b_columns_of T) .nil pass0 (pa_cons (pe_ix ix_tup (pv 1) pe_int (fun _ _ => rfl)) pa_nil)) (by rfl))) (pss_cons (ps_set (i := 6) sc_joined_form.nd rfl (by first | exact Or.inl rfl | exact Or.inr rfl) (pe_cut (pe_and (pe_cmpR op_eq (pe_callB call_len_seq (by rfl) T.z_len PySem.boot_len (pa_cons (pv 2) pa_nil)) pe_int (nomark _)) (pe_and (pe_ix ix_tup (pv 1) pe_int (fun _ _ => rfl)) (pe_one (pe_cmpR op_eq (pe_ix ix_tup (pe_ix ix_list (pe_ix ix_tup (pv 1) pe_int (fun _ _ => rfl)) (pe_un un_neg pe_int) (fun _ _ => rfl)) pe_int (fun _ _ => rfl)) (pv 4) (nomark _))))))) (pss_one (ps_ret (pe_tupG (pa_cons (pe_call (ok_made_of T) (hr.mono (by decide)) (by rfl) T.g_made_of T.f_made_of.kp (b_made_of T) .nil pass0 (pa_cons (pv 1) (pa_cons (pv 2) pa_nil))) (pa_cons (pe_cut (pe_and (pv 3) (pe_one (pe_or (pv 5) (pe_one (pv 6)))))) pa_nil)))))))))), ?_⟩
    obtain ⟨p, q, rfl, hp, hq⟩ := id hf
    obtain ⟨r, t, rfl, hrr, ht⟩ := id hg
    have gl : gs.length ≤ 200 := gl
    have hq : LsK K H q ks := hq
    have ht : LsK K H t gs := ht
    have fl : ks.length ≤ 200 := fl
    refine ⟨_, rfl, _, _, _, _, rfl, rfl, sqT hp, at0, (by show 0 ≤ sizeLine; decide), fun p1 H1 n1 e1 h1 => ?_⟩
    refine eqE (goodL goodK) (by decide) (x := ks) (y := []) (hq.ex e1).dp (nilD h1) ⟨_, rfl, ?_⟩
    refine ifB (fun z => ?_) (fun z => ?_)
    · have z : ks = [] := of_decide_eq_true z
      have ej : joinL (ks, b) (gs, c) = (gs, c) := by
        unfold joinL
        rw [if_pos z]
      rw [ej] at k
      obtain ⟨ut, hut, hkt⟩ := id (ht.ex e1)
      refine ⟨_, rfl, _, _, _, _, rfl, rfl, sqT (e1 _ _ hrr), at0, _, _, rfl, .inl (sqI hut), fun p2 H2 n2 e2 h2 => ?_⟩
      refine ⟨_, rfl, _, _, _, _, rfl, rfl, sqT ((e1.trans e2) _ _ hrr), at1, (by show 2 ≤ sizeLine; decide), fun p3 H3 n3 e3 h3 => ?_⟩
      exact k _ H3 (e1.trans (e2.trans e3)) ⟨p3, p2, rfl, none_of e1 n2, h3, ut, e3 _ _ h2, hkt.ex (e2.trans e3)⟩
    · have ne : ks ≠ [] := of_decide_eq_false z
      have ej : joinL (ks, b) (gs, c) = (madeOf (gs, c) ks, b && (!decide (lastC ks ∈ cols gs) || (decide (ks.length = 1) && (c && decide (lastC gs = lastC ks))))) := by
        unfold joinL
        rw [if_neg ne]
      rw [ej] at k
      refine ⟨_, rfl, _, _, rfl, sqT (e1 _ _ hp), rfl, _, _, rfl, _, _, rfl, rfl, ?_⟩
      obtain ⟨uk, hu, hk⟩ := id (hq.ex e1)
      have ul := hk.1
      obtain ⟨ql, l, kl, el, al, hql⟩ := lastV hk ne
      have lc : lastC ks = kl.1 := by rw [el, last_snoc]
      rw [lc] at k
      refine ⟨_, rfl, _, rfl, _, _, _, _, rfl, rfl, sqI hu, al, _, _, _, _, rfl, rfl, hql, at0, ?_⟩
      refine ⟨_, rfl, _, rfl, _, _, _, _, rfl, rfl, sqT (e1 _ _ hrr), at0, t, gs, rfl, ht.ex e1, by omega, fun p2 H2 n2 e2 h2 => ?_⟩
      refine ⟨_, _, rfl, .inl (sqI h2), rfl, flatI _, ?_⟩
      have e02 := e1.trans e2
      have hu2 := e2 _ _ hu
      rw [inV_int]
      refine ⟨fun v' H' => v' = .bl (decide (ks.length = 1) && (c && decide (lastC gs = kl.1))) ∧ H' = H2, ?_, ?_⟩
      · refine ⟨_, rfl, _, _, rfl, .inl (sqI hu2), rfl, _, rfl, ?_⟩
        have el1 : decide (V.int ((uk.length : Nat) : Int) = V.int 1) = decide (ks.length = 1) := by
          rw [decInt, decide_eq_decide]
          omega
        rw [el1]
        refine ifB (fun d => ?_) (fun d => ?_)
        · rw [d, Bool.true_and]
          refine ⟨_, rfl, _, _, _, _, rfl, rfl, sqT (e02 _ _ hrr), at1, _, rfl, ?_⟩
          cases c with
          | false => exact ifF rfl ⟨rfl, rfl⟩
          | true =>
            refine ifT rfl ?_
            have gne : gs ≠ [] := gb rfl
            obtain ⟨ug, hug, hkg⟩ := id (ht.ex e02)
            obtain ⟨qg, lg, kg, eg, ag, hqg⟩ := lastV hkg gne
            have eg : gs = lg ++ [kg] := eg
            have lcg : lastC gs = kg.1 := by rw [eg, last_snoc]
            refine ⟨_, rfl, _, _, _, _, rfl, rfl, sqT (e02 _ _ hrr), at0, _, rfl, _, _, _, _, rfl, rfl, sqI hug, ag, _, _, _, _, rfl, rfl, hqg, at0, _, rfl, rfl, ?_⟩
            rw [decInt, lcg]
            exact ⟨by simp, rfl⟩
        · rw [d, Bool.false_and]
          exact ⟨rfl, rfl⟩
      · rintro v' H' ⟨rfl, rfl⟩
        refine ⟨_, rfl, _, rfl, _, q, (gs, c), ks, rfl, hg.ex e02, hq.ex e02, by show gs.length ≤ 500; omega, by omega, gb, fun R H3 n3 e3 h3 => ?_⟩
        refine ⟨fun v' H' => v' = .bl (b && (!decide (kl.1 ∈ cols gs) || (decide (ks.length = 1) && (c && decide (lastC gs = kl.1))))) ∧ H' = H3, ?_, ?_⟩
        · refine ⟨_, rfl, _, rfl, ?_⟩
          cases b with
          | false => exact ifF rfl ⟨rfl, rfl⟩
          | true =>
            refine ifT rfl ?_
            rw [Bool.true_and]
            refine ⟨_, rfl, _, rfl, ?_⟩
            generalize decide (kl.1 ∈ cols gs) = st
            cases st with
            | false => exact ifT rfl ⟨rfl, rfl⟩
            | true => exact ifF rfl ⟨_, rfl, rfl, rfl⟩
        · rintro v' H' ⟨rfl, rfl⟩
          refine ⟨(by show 2 ≤ sizeLine; decide), fun p4 H4 n4 e4 h4 => ?_⟩
          exact k _ H4 (e02.trans (e3.trans e4)) ⟨p4, R, rfl, none_of e02 n3, h4, h3.ex e4⟩
theorem ok_joined (T : Txt K mg) : FnOk PR w K mg base (L2.CX PR w) 4 T.a_joined T.d_joined ["one", "other"] (sp_joined K) := by
  refine T.f_joined.okX sc_joined (fun vs H Q E h => ?_) (fun cdv A outer s H vs Q E hr h => ?_)
  · obtain ⟨v, u, f, g, rfl, _⟩ := h
    rfl
  · obtain ⟨v, u, f, g, rfl, hf, hg, fl, gl, gb, h1, h2, k⟩ := h
    refine ⟨_, (pss_cons (ps_expr (pe_call (ok_need_form T) (hr.mono (by decide)) (by rfl) T.g_need_form T.f_need_form.kp (b_need_form T) .nil passX (pa_cons (pv 0) pa_nil))) (pss_cons (ps_expr (pe_call (ok_need_form T) (hr.mono (by decide)) (by rfl) T.g_need_form T.f_need_form.kp (b_need_form T) .nil passX (pa_cons (pv 1) pa_nil))) (pss_one (ps_ret (pe_call (ok_joined_form T) (hr.mono (by decide)) (by rfl) T.g_joined_form T.f_joined_form.kp (b_joined_form T) .nil pass0 (pa_cons (pv 0) (pa_cons (pv 1) pa_nil))))))), ?_⟩
    refine ⟨_, rfl, v, f, rfl, hf.q, by omega, h1, fun H1 e1 => ?_⟩
    refine ⟨_, rfl, u, g, rfl, (hg.ex e1).q, by omega, h2, fun H2 e2 => ?_⟩
    have e02 := e1.trans e2
    exact ⟨_, rfl, _, rfl, v, u, f, g, rfl, hf.ex e02, hg.ex e02, fl, gl, gb, fun v' H' e n => k v' H' (e02.trans e) (n.old e02)⟩
end
end K10
set_option Elab.async false
set_option pp.maxSteps 1200
set_option linter.all false
set_option maxRecDepth 100000
set_option maxHeartbeats 4000000
namespace K10
open PySem L2 My
theorem keys_take {us : List V} {ks l : List Ky} {kl : Ky} {K : PySem.W.Frag} {H : Hp} (h : KsAt K H us ks) (e : ks = l ++ [kl]) : cutV us none (some (-1)) = us.take l.length ∧ KsAt K H (us.take l.length) l := by
  have ul := h.1
  refine ⟨cut_last _ _ (by rw [ul, e, List.length_append]; rfl), ?_⟩
  have := AllR.take h l.length
  rw [show ks.take l.length = l by rw [e]; simp] at this
  exact this
theorem rep_run (ky : Ky) : (List.replicate (((if ky.2 = 1 then 1 else 2 : Nat) : Int)).toNat [V.int ky.1]).flatten = (runK ky).map V.int := by
  unfold runK
  by_cases c : ky.2 = 1
  · rw [if_pos c]
    rfl
  · rw [if_neg c]
    rfl
theorem first_of {f : Fm} (h : f.1 ≠ [] ∧ f.2 = false) : firstL f = [minI (cols f.1.dropLast)] := if_pos h
theorem first_no {f : Fm} (h : ¬ (f.1 ≠ [] ∧ f.2 = false)) : firstL f = [] := if_neg h
theorem first_len (f : Fm) : (firstL f).length ≤ 1 := by
  unfold firstL
  split <;> simp
def sp__law_short (K : PySem.W.Frag) : Sp := fun vs H Q _ => ∃ (v : V) (f : Fm), vs = [v] ∧ FmR K H v f ∧ f.1.length ≤ 200 ∧ (f.1.length = 1 → f.2 = true) ∧ (∀ k ∈ f.1, k.2 = 1 ∨ k.2 = -1) ∧ New (.lst ((shortL f).map V.int)) H Q
section
variable {w : World} {K : PySem.W.Frag} {mg : Str → Option Value} {base : Heap}
theorem ok_shortest_clicks (T : Txt K mg) : FnOk PR w K mg base CX0 2 T.a_shortest_clicks T.d_shortest_clicks ["form"] (sp_shortest_clicks K) := by
  refine T.f_shortest_clicks.ok sc_shortest_clicks (fun vs H Q E h => ?_) (fun cdv A outer s0 H vs Q E hr h => ?_)
  · obtain ⟨v, f, rfl, _⟩ := h
    rfl
  · obtain ⟨v, ⟨ks, b⟩, rfl, ⟨p, q, rfl, hp, hq⟩, fl, one, k⟩ := h
    refine ⟨_, (pss_cons (ps_asg (pv 0) (pg_tup rfl (pgs_cons (pg_name (i := 1) sc_shortest_clicks.nd rfl (by first | exact Or.inl rfl | exact Or.inr rfl)) (pgs_cons (pg_name (i := 2) sc_shortest_clicks.nd rfl (by first | exact Or.inl rfl | exact Or.inr rfl)) pgs_nil)))) (pss_cons (ps_set (i := 3) sc_shortest_clicks.nd rfl (by first | exact Or.inl rfl | exact Or.inr rfl) (pe_lstG pa_nil)) (pss_cons (ps_cut (ps_if (PW.pt (pw_and (pt_cmpR (op_neD hr.units) (pv 1) (pe_lstG pa_nil) (nomark _)) (pw_and1 (pt_not (pt_val (pv 2)))))) (pss_one (ps_expr (pe_bm PySem.F.plainAttrs_list PySem.F.slot_list_append PySem.F.type_list_append mt_append (pv 3) (pa_cons (pe_callB (cr_min rfl) (by rfl) T.z_min (by decide +kernel) (pa_cons (pe_call (ok_columns_of T) (hr.mono (by decide)) (by rfl) T.g_columns_of T.f_columns_of.kp (b_columns_of T) .nil pass0 (pa_cons (pe_slice sl_listG (pv 1) po_none (po_some (pe_un un_neg pe_int))) pa_nil)) pa_nil)) pa_nil)))) pss_nil)) (pss_cons (ps_for PassesOwn.never rfl (pi_list (pe_revG (pv 1))) (pg_tup rfl (pgs_cons (pg_name (i := 4) sc_shortest_clicks.nd rfl (by first | exact Or.inl rfl | exact Or.inr rfl)) (pgs_cons (pg_name (i := 5) sc_shortest_clicks.nd rfl (by first | exact Or.inl rfl | exact Or.inr rfl)) pgs_nil))) (pss_one (ps_expr (pe_bm PySem.F.plainAttrs_list PySem.F.slot_list_extend PySem.F.type_list_extend mt_extend (pv 3) (pa_cons (pe_op op_repG (pe_lstG (pa_cons (pv 4) pa_nil)) (pe_cut (pe_ifExp (pt_cmpR op_eq (pv 5) pe_int (nomark _)) pe_int pe_int))) pa_nil))))) (pss_one (ps_ret (pv 3))))))), ?_⟩
    have fl : ks.length ≤ 200 := fl
    have one : ks.length = 1 → b = true := one
    obtain ⟨us, hu, hk⟩ := id hq
    refine ⟨_, rfl, _, _, rfl, sqT hp, rfl, _, _, rfl, _, _, rfl, rfl, ?_⟩
    refine ⟨(by show 0 ≤ sizeLine; decide), fun F H1 nF e1 hF => ?_⟩
    refine ⟨fun σ' H' => σ' = [some (.ref p), some (.ref q), some (.bl b), some (.ref F), none, none] ∧ Ex H H' ∧ H' F = some (.lst ((firstL (ks, b)).map V.int)), ?_, ?_⟩
    · refine ⟨_, rfl, (by show 0 ≤ sizeLine; decide), fun p2 H2 n2 e2 h2 => ?_⟩
      have e02 := e1.trans e2
      refine neE (goodL goodK) (by decide) (x := ks) (y := []) (hq.ex e02).dp (nilD h2) ⟨_, rfl, ?_⟩
      refine ifB (fun c => ?_) (fun c => ?_)
      · have ne : ks ≠ [] := by simpa using c
        refine ⟨_, rfl, _, rfl, ?_⟩
        cases b with
        | true =>
          refine ifF rfl ?_
          refine ⟨rfl, e02, ?_⟩
          rw [first_no (f := (ks, true)) (fun z => by cases z.2)]
          exact e2 _ _ hF
        | false =>
          refine ifT rfl ?_
          obtain ⟨l, kl, el⟩ := snoc_of ne
          have lne : l ≠ [] := fun z => by
            rw [z] at el
            have := one (by rw [el]; rfl)
            cases this
          obtain ⟨ct, hkl⟩ := keys_take (hk.ex e02) el
          refine ⟨_, rfl, .inl ⟨rfl, _, sqI (e2 _ _ hF)⟩, _, rfl, _, rfl, _, rfl, _, _, rfl, sqI (e02 _ _ hu), fun p3 H3 n3 e3 h3 => ?_⟩
          rw [ct] at h3
          have ll : l.length ≤ 200 := by
            rw [el, List.length_append] at fl
            omega
          refine ⟨p3, l, rfl, ⟨_, h3, hkl.ex e3⟩, by omega, fun D H4 n4 e4 h4 => ?_⟩
          refine ⟨_, _, rfl, sqI h4, ?_, fun m mm ml => ?_⟩
          · have := List.length_pos_iff.mpr lne
            simpa [cols] using this
          rw [minI_eq mm ml]
          have e24 := e2.trans (e3.trans e4)
          refine ⟨_, _, _, rfl, rfl, e24 _ _ hF, (by show 0 < sizeLine; decide), ?_⟩
          refine ⟨rfl, Evl.Ex.mut (e1.trans e24) nF, ?_⟩
          rw [upd_same, first_of (f := (ks, false)) ⟨ne, rfl⟩]
          have : ks.dropLast = l := by rw [el, List.dropLast_concat]
          show _ = some (HO.lst ([minI (cols ks.dropLast)].map V.int))
          rw [this]
          rfl
      · have z : ks = [] := by simpa using c
        refine ⟨rfl, e02, ?_⟩
        rw [first_no (f := (ks, b)) (fun y => y.1 z)]
        exact e2 _ _ hF
    rintro σ' H2 ⟨rfl, e2, hF2⟩
    have rev := allR_rev (hk.ex e2)
    refine ⟨_, rfl, _, _, rfl, sqI (e2 _ _ hu), fun p2 H3 n3 e3 h3 => ?_⟩
    have f1 := first_len (ks, b)
    refine ⟨p2, rfl, ⟨_, sqI h3⟩, for_list (K := K) (a := p2) (xs := us.reverse) (fun i σ H' => ∃ v4 v5, σ = [some (.ref p), some (.ref q), some (.bl b), some (.ref F), v4, v5] ∧ Ex H H' ∧ H' p2 = some (.lst us.reverse) ∧ H' F = some (.lst ((firstL (ks, b) ++ (ks.reverse.take i).flatMap runK).map V.int))) ⟨_, _, rfl, e2.trans e3, h3, by rw [List.take_zero, List.flatMap_nil, List.append_nil]; exact e3 _ _ hF2⟩ (fun i σ H' _ ⟨_, _, _, _, h, _⟩ => sqI h) ?_ ?_⟩
    · rintro i x σ H3 hx ⟨v4, v5, rfl, e3', h23, hF3⟩
      obtain ⟨ky, hky, qk, rfl, hqk⟩ := (allR_rev (hk.ex e3')).get hx
      have il : i < 200 := by
        have := (List.getElem?_eq_some_iff.mp hx).1
        rw [List.length_reverse, hk.1] at this
        omega
      have ef : (ks.reverse.take (i + 1)).flatMap runK = (ks.reverse.take i).flatMap runK ++ runK ky := by
        rw [take_snoc hky, List.flatMap_append]
        simp
      have gl : (firstL (ks, b) ++ (ks.reverse.take i).flatMap runK).length ≤ 2 * i + 1 := by
        have := runs_len (ks.reverse.take i)
        rw [List.length_take] at this
        rw [List.length_append]
        omega
      rw [ef, ← List.append_assoc]
      generalize firstL (ks, b) ++ (ks.reverse.take i).flatMap runK = g at hF3 gl
      refine ⟨_, _, rfl, hqk, rfl, _, _, rfl, _, _, rfl, rfl, ?_⟩
      refine ⟨_, rfl, .inl ⟨rfl, _, sqI hF3⟩, _, rfl, (by show 1 ≤ sizeLine; decide), fun p5 H5 n5 e5 h5 => ?_⟩
      refine ⟨fun v H' => v = .int ((if ky.2 = 1 then 1 else 2 : Nat) : Int) ∧ H5 = H', ?_, ?_⟩
      · refine ⟨_, rfl, rfl, _, rfl, ?_⟩
        rw [decInt]
        refine ifB (fun c => ?_) (fun c => ?_)
        · rw [if_pos (of_decide_eq_true c)]
          exact ⟨rfl, rfl⟩
        · rw [if_neg (of_decide_eq_false c)]
          exact ⟨rfl, rfl⟩
      rintro v H' ⟨rfl, rfl⟩
      refine ⟨_, _, _, rfl, rfl, h5, by split <;> omega, by split <;> omega, ?_, fun p6 H6 n6 e6 h6 => ?_⟩
      · exact Nat.le_trans (show 1 * (((if ky.2 = 1 then 1 else 2 : Nat) : Int)).toNat ≤ 2 by split <;> omega) (by decide)
      rw [rep_run] at h6
      have e36 := e5.trans e6
      have hF6 := e36 _ _ hF3
      have npF : p2 ≠ F := (ne_of_none hF2 n3).symm
      have rl := run_len ky
      refine ⟨_, _, _, _, rfl, rfl, hF6, h6, ?_, ?_⟩
      · rw [List.length_map, List.length_map]
        exact Nat.le_trans (show _ ≤ 2000 by omega) (by decide)
      refine ⟨_, _, rfl, Evl.Ex.mut (e3'.trans e36) nF, ?_, ?_⟩
      · rw [upd_ne npF]
        exact e36 _ _ h23
      · rw [upd_same, ← List.map_append]
    · rintro σ H3 ⟨v4, v5, rfl, e3', h23, hF3⟩
      rw [List.length_reverse, hk.1, ← List.length_reverse, List.take_length] at hF3
      exact ⟨_, rfl, k F H3 nF e3' hF3⟩
theorem ok_clicks_for (T : Txt K mg) : FnOk PR w K mg base (L2.CX PR w) 4 T.a_clicks_for T.d_clicks_for ["form"] (sp_clicks_for K) := by
  refine T.f_clicks_for.okX sc_clicks_for (fun vs H Q E h => ?_) (fun cdv A outer s H vs Q E hr h => ?_)
  · obtain ⟨v, f, rfl, _⟩ := h
    rfl
  · obtain ⟨v, f, rfl, hf, fl, h1, one, k⟩ := h
    refine ⟨_, (pss_cons (ps_expr (pe_call (ok_need_form T) (hr.mono (by decide)) (by rfl) T.g_need_form T.f_need_form.kp (b_need_form T) .nil passX (pa_cons (pv 0) pa_nil))) (pss_one (ps_ret (pe_call (ok_shortest_clicks T) (hr.mono (by decide)) (by rfl) T.g_shortest_clicks T.f_shortest_clicks.kp (b_shortest_clicks T) .nil pass0 (pa_cons (pv 0) pa_nil))))), ?_⟩
    refine ⟨_, rfl, v, f, rfl, hf.q, by omega, h1, fun H1 e1 => ?_⟩
    exact ⟨_, rfl, v, f, rfl, hf.ex e1, fl, one, fun p H2 n2 e2 h2 => k p H2 (none_of e1 n2) (e1.trans e2) h2⟩
theorem ok__law_short (T : Txt K mg) : FnOk PR w K mg base CX0 1 T.a__law_short T.d__law_short ["_law_form"] (sp__law_short K) := by
  refine T.f__law_short.ok sc__law_short (fun vs H Q E h => ?_) (fun cdv A outer s0 H vs Q E hr h => ?_)
  · obtain ⟨v, f, rfl, _⟩ := h
    rfl
  · obtain ⟨v, ⟨ks, b⟩, rfl, ⟨p, q, rfl, hp, hq⟩, fl, one, sgn, k⟩ := h
    refine ⟨_, (pss_cons (ps_asg (pv 0) (pg_tup rfl (pgs_cons (pg_name (i := 1) sc__law_short.nd rfl (by first | exact Or.inl rfl | exact Or.inr rfl)) (pgs_cons (pg_name (i := 2) sc__law_short.nd rfl (by first | exact Or.inl rfl | exact Or.inr rfl)) pgs_nil)))) (pss_cons (ps_set (i := 3) sc__law_short.nd rfl (by first | exact Or.inl rfl | exact Or.inr rfl) (pe_lstG pa_nil)) (pss_cons (ps_cut (ps_if (PW.pt (pw_and (pt_cmpR op_gt (pe_callB call_len_seq (by rfl) T.z_len PySem.boot_len (pa_cons (pv 1) pa_nil)) pe_int (nomark _)) (pw_and1 (pt_not (pt_val (pv 2)))))) (pss_one (ps_set (i := 3) sc__law_short.nd rfl (by first | exact Or.inl rfl | exact Or.inr rfl) (pe_lstG (pa_cons (pe_callB (cr_min rfl) (by rfl) T.z_min (by decide +kernel) (pa_cons (pe_lc (own := [("_law_column", 4), ("_law_sign", 5)]) (g := (gTup K 2 (gCons (gName 4) (gCons (gName 5) gNil)))) (by rfl) sc__law_short.nd (pi_list (pe_slice sl_listG (pv 1) po_none (po_some (pe_un un_neg pe_int)))) (blkOk_by (own := [("_law_column", 4), ("_law_sign", 5)]) (N := ["_law_form", "_law_keys_here", "_law_bound", "_law_found", "_law_column", "_law_sign"]) (sc := (defScope s__law_short)) (by decide +kernel)) (fun _ _ _ _ _ => (pg_tup rfl (pgs_cons (pg_name (i := 4) sc__law_short.nd rfl (by first | exact Or.inl rfl | exact Or.inr rfl)) (pgs_cons (pg_name (i := 5) sc__law_short.nd rfl (by first | exact Or.inl rfl | exact Or.inr rfl)) pgs_nil)))) (fun _ _ _ _ _ => pts_nil) (fun _ _ _ _ _ => (pv 4))) pa_nil)) pa_nil)))) pss_nil)) (pss_cons (ps_for PassesOwn.never rfl (pi_list (pe_revG (pv 1))) (pg_tup rfl (pgs_cons (pg_name (i := 4) sc__law_short.nd rfl (by first | exact Or.inl rfl | exact Or.inr rfl)) (pgs_cons (pg_name (i := 5) sc__law_short.nd rfl (by first | exact Or.inl rfl | exact Or.inr rfl)) pgs_nil))) (pss_one (ps_set (i := 3) sc__law_short.nd rfl (by first | exact Or.inl rfl | exact Or.inr rfl) (pe_op op_catG (pv 3) (pe_op op_repG (pe_lstG (pa_cons (pv 4) pa_nil)) (pe_ix ix_list (pe_lstG (pa_cons pe_int (pa_cons pe_int pa_nil))) (pe_callTy call_int1 (by rfl) T.z_int (by decide +kernel) (pa_cons (pe_cmpR op_eq (pv 5) (pe_un un_neg pe_int) (nomark _)) pa_nil)) (fun _ _ => rfl))))))) (pss_one (ps_ret (pv 3))))))), ?_⟩
    have fl : ks.length ≤ 200 := fl
    have one : ks.length = 1 → b = true := one
    obtain ⟨us, hu, hk⟩ := id hq
    have ul : us.length = ks.length := hk.1
    refine ⟨_, rfl, _, _, rfl, sqT hp, rfl, _, _, rfl, _, _, rfl, rfl, ?_⟩
    refine ⟨(by show 0 ≤ sizeLine; decide), fun F1 H1 nF1 e1 hF1 => ?_⟩
    refine ⟨fun σ' H' => ∃ F, σ' = [some (.ref p), some (.ref q), some (.bl b), some (.ref F), none, none] ∧ H F = none ∧ Ex H H' ∧ H' F = some (.lst ((firstL (ks, b)).map V.int)), ?_, ?_⟩
    · refine ⟨_, rfl, _, _, rfl, .inl (sqI (e1 _ _ hu)), _, _, rfl, rfl, _, rfl, ?_⟩
      refine ifB (fun c => ?_) (fun c => ?_)
      · have c : ((us.length : Nat) : Int) > 1 := of_decide_eq_true c
        have ne : ks ≠ [] := fun z => by
          rw [z] at ul
          have ul : us.length = 0 := ul
          omega
        refine ⟨_, rfl, _, rfl, ?_⟩
        cases b with
        | true =>
          refine ifF rfl ?_
          refine ⟨F1, rfl, nF1, e1, ?_⟩
          rw [first_no (f := (ks, true)) (fun z => by cases z.2)]
          exact hF1
        | false =>
          refine ifT rfl ?_
          obtain ⟨l, kl, el⟩ := snoc_of ne
          have lne : l ≠ [] := fun z => by
            rw [z] at el
            have := one (by rw [el]; rfl)
            cases this
          have ll : l.length ≤ 200 := by
            rw [el, List.length_append] at fl
            omega
          obtain ⟨ct, hkl⟩ := keys_take (hk.ex e1) el
          refine ⟨_, rfl, _, rfl, _, rfl, _, _, rfl, sqI (e1 _ _ hu), fun p3 H3 n3 e3 h3 => ?_⟩
          rw [ct] at h3
          have hkl3 := hkl.ex e3
          have ul3 := hkl3.1
          refine ⟨p3, rfl, ⟨_, sqI h3⟩, fun D hD => lc_mapG (K := K) (a := p3) (ys := (cols l).map V.int) (sqI h3) hD (by simp [cols, ul3]) (Nat.le_trans (show _ ≤ 200 by omega) (by decide)) ?_ ?_⟩
          · intro i x y H' e' hx hy N Z kN
            obtain ⟨k', hki, q', rfl, hq'⟩ := hkl3.get hx
            have hy' : (cols l)[i]? = some k'.1 := by unfold cols; rw [List.getElem?_map, hki]; rfl
            rw [List.getElem?_map, hy'] at hy
            cases hy
            refine ⟨_, _, rfl, Evl.ex_t e' hq', rfl, _, _, rfl, _, _, rfl, rfl, rfl, ?_⟩
            show _
            exact ⟨_, rfl, kN H' (Evl.Ex.refl _)⟩
          intro H4 e4 h4
          refine ⟨_, _, rfl, sqI h4, ?_, fun m mm ml => ?_⟩
          · have := List.length_pos_iff.mpr lne
            simpa [cols] using this
          rw [minI_eq mm ml]
          refine ⟨(by show 1 ≤ sizeLine; decide), fun F H5 n5 e5 h5 => ?_⟩
          have e15 := e1.trans (e3.trans (e4.trans e5))
          refine ⟨F, rfl, none_of (e1.trans (e3.trans e4)) n5, e15, ?_⟩
          rw [first_of (f := (ks, false)) ⟨ne, rfl⟩]
          have : ks.dropLast = l := by rw [el, List.dropLast_concat]
          show _ = some (HO.lst ([minI (cols ks.dropLast)].map V.int))
          rw [this]
          exact h5
      · have c : ¬ ((us.length : Nat) : Int) > 1 := of_decide_eq_false c
        refine ⟨F1, rfl, nF1, e1, ?_⟩
        rw [first_no (f := (ks, b)) (fun y => by
          have : 0 < ks.length := List.length_pos_iff.mpr y.1
          have h1 : ks.length = 1 := by omega
          have := one h1
          rw [this] at y
          cases y.2)]
        exact hF1
    rintro σ' H2 ⟨F, rfl, nF, e2, hF2⟩
    have rev := allR_rev (hk.ex e2)
    refine ⟨_, rfl, _, _, rfl, sqI (e2 _ _ hu), fun p2 H3 n3 e3 h3 => ?_⟩
    have f1 := first_len (ks, b)
    refine ⟨p2, rfl, ⟨_, sqI h3⟩, for_list (K := K) (a := p2) (xs := us.reverse) (fun i σ H' => ∃ F v4 v5, σ = [some (.ref p), some (.ref q), some (.bl b), some (.ref F), v4, v5] ∧ H F = none ∧ Ex H H' ∧ H' p2 = some (.lst us.reverse) ∧ H' F = some (.lst ((firstL (ks, b) ++ (ks.reverse.take i).flatMap runK).map V.int))) ⟨F, _, _, rfl, nF, e2.trans e3, h3, by rw [List.take_zero, List.flatMap_nil, List.append_nil]; exact e3 _ _ hF2⟩ (fun i σ H' _ ⟨_, _, _, _, _, _, h, _⟩ => sqI h) ?_ ?_⟩
    · rintro i x σ H3 hx ⟨F, v4, v5, rfl, nF, e3', h23, hF3⟩
      obtain ⟨ky, hky, qk, rfl, hqk⟩ := (allR_rev (hk.ex e3')).get hx
      have il : i < 200 := by
        have := (List.getElem?_eq_some_iff.mp hx).1
        rw [List.length_reverse, hk.1] at this
        omega
      have ef : (ks.reverse.take (i + 1)).flatMap runK = (ks.reverse.take i).flatMap runK ++ runK ky := by
        rw [take_snoc hky, List.flatMap_append]
        simp
      have gl : (firstL (ks, b) ++ (ks.reverse.take i).flatMap runK).length ≤ 2 * i + 1 := by
        have := runs_len (ks.reverse.take i)
        rw [List.length_take] at this
        rw [List.length_append]
        omega
      rw [ef, ← List.append_assoc]
      generalize firstL (ks, b) ++ (ks.reverse.take i).flatMap runK = g at hF3 gl
      refine ⟨_, _, rfl, hqk, rfl, _, _, rfl, _, _, rfl, rfl, ?_⟩
      refine ⟨_, rfl, _, rfl, (by show 1 ≤ sizeLine; decide), fun p5 H5 n5 e5 h5 => ?_⟩
      refine ⟨(by show 2 ≤ sizeLine; decide), fun p6 H6 n6 e6 h6 => ?_⟩
      refine ⟨_, rfl, _, rfl, rfl, .inr ⟨_, rfl, ?_⟩⟩
      rw [decInt]
      have sg : (if ky.2 = -1 then 2 else 1 : Nat) = (if ky.2 = 1 then 1 else 2 : Nat) := by
        have m : ky ∈ ks := List.mem_reverse.mp (List.mem_of_getElem? hky)
        rcases sgn ky m with z | z <;> rw [z] <;> rfl
      obtain ⟨n, hn, n2⟩ : ∃ n : Nat, n = (if ky.2 = -1 then 2 else 1) ∧ n ≤ 2 := ⟨_, rfl, by split <;> omega⟩
      have at6 : atI [V.int 1, .int 2] (if decide (ky.2 = -1) = true then 1 else 0) = some (.int (n : Int)) := by
        by_cases c : ky.2 = -1
        · rw [decide_eq_true c, hn, if_pos c]
          rfl
        · rw [decide_eq_false c, hn, if_neg c]
          rfl
      refine ⟨_, _, _, _, rfl, rfl, sqI h6, at6, _, _, _, rfl, rfl, e6 _ _ h5, by omega, by omega, ?_, fun p7 H7 n7 e7 h7 => ?_⟩
      · exact Nat.le_trans (show 1 * ((n : Int)).toNat ≤ 2 by omega) (by decide)
      rw [hn] at h7
      rw [sg, rep_run] at h7
      have e37 := e5.trans (e6.trans e7)
      have rl := run_len ky
      refine ⟨_, _, _, _, rfl, rfl, e37 _ _ hF3, h7, ?_, fun p8 H8 n8 e8 h8 => ?_⟩
      · rw [List.length_map, List.length_map]
        exact Nat.le_trans (show _ ≤ 2000 by omega) (by decide)
      refine ⟨p8, _, _, rfl, none_of (e3'.trans e37) n8, e3'.trans (e37.trans e8), (e37.trans e8) _ _ h23, ?_⟩
      rw [h8, ← List.map_append]
    · rintro σ H3 ⟨F, v4, v5, rfl, nF, e3', h23, hF3⟩
      rw [List.length_reverse, hk.1, ← List.length_reverse, List.take_length] at hF3
      exact ⟨_, rfl, k F H3 nF e3' hF3⟩
end
end K10
set_option Elab.async false
set_option pp.maxSteps 1200
set_option linter.all false
set_option maxRecDepth 100000
set_option maxHeartbeats 4000000
namespace K10
open PySem L2 My
def sp_choices : Sp := fun vs H Q _ => ∃ (w : Int) (m : Nat), vs = [.int w, .int (m : Nat)] ∧ -100 ≤ w ∧ w ≤ 100 ∧ m ≤ 50 ∧ Q (.int (choicesI w m)) H
def sp_number_of_forms : Sp := fun vs H Q _ => ∃ w : Nat, vs = [.int (w : Nat)] ∧ 1 ≤ w ∧ w ≤ 20 ∧ ∀ H', Ex H H' → Q (.int (numForms w)) H'
def sp_need_column : Sp := fun vs H Q _ => ∃ w c : Int, vs = [.int w, .int c] ∧ 0 ≤ c ∧ c < w ∧ Q .non H
def sp_number_made (K : PySem.W.Frag) : Sp := fun vs H Q _ => ∃ (w : Nat) (v : V) (f : Fm), vs = [.int (w : Nat), v] ∧ FmR K H v f ∧ 1 ≤ w ∧ w ≤ 20 ∧ f.1.length ≤ w ∧ hasForm f = true ∧ (∀ c ∈ cols f.1, 0 ≤ c ∧ c < (w : Int)) ∧ ∀ H', Ex H H' → Q (.int (numMade w f)) H'
theorem choices_succ (w : Int) (m : Nat) : choicesI w (m + 1) = choicesI w m * 2 * (w - ((m : Nat) : Int)) := by
  unfold choicesI
  rw [List.range_succ, List.foldl_append]
  rfl
theorem int_nat {t : Nat} {v : Int} (h : v = ((t : Nat) : Int)) {P : Int → Prop} (p : P ((t : Nat) : Int)) : P v := h ▸ p
theorem rep_two {ks : List Ky} {b : Bool} {t : Nat} (d : ¬ ks.length = 1) : (match (ks, b).1 with
  | [k] => ([(k.1, if k.2 = 1 ∧ t % 2 = 1 then 1 else -1)], true)
  | _ => ((ks, b).1, (ks, b).2 && decide (t = 1)) : Fm) = (ks, b && decide (t = 1)) := by
  match ks, d with
  | [], _ => rfl
  | [k0], d => exact absurd rfl d
  | _ :: _ :: _, _ => rfl
section
variable {w : World} {K : PySem.W.Frag} {mg : Str → Option Value} {base : Heap}
theorem ok_choices (T : Txt K mg) : FnOk PR w K mg base CX0 1 T.a_choices T.d_choices ["width", "many"] sp_choices := by
  refine T.f_choices.ok sc_choices (fun vs H Q E h => ?_) (fun cdv A outer s H vs Q E hr h => ?_)
  · obtain ⟨w, m, rfl, _⟩ := h
    rfl
  · obtain ⟨w, m, rfl, w0, w1, hm, k⟩ := h
    refine ⟨_, (pss_cons (ps_set (i := 2) sc_choices.nd rfl (by first | exact Or.inl rfl | exact Or.inr rfl) pe_int) (pss_cons (ps_for PassesOwn.never rfl (pi_range1 (by rfl) T.z_range (pa_cons (pv 1) pa_nil)) (pg_name (i := 3) sc_choices.nd rfl (by first | exact Or.inl rfl | exact Or.inr rfl)) (pss_one (ps_set (i := 2) sc_choices.nd rfl (by first | exact Or.inl rfl | exact Or.inr rfl) (pe_op op_mul (pe_op op_mul (pv 2) pe_int) (pe_op op_sub (pv 0) (pv 3)))))) (pss_one (ps_ret (pv 2))))), ?_⟩
    refine ⟨_, rfl, _, rfl, by omega, by omega, for_range (lo := 0) (n := ((m : Nat) : Int).toNat) (fun i σ H' => ∃ v3, σ = [some (.int w), some (.int (m : Nat)), some (.int (choicesI w i)), v3] ∧ H' = H) ⟨_, rfl, rfl⟩ ?_ ?_⟩
    · rintro i σ H3 hi ⟨v3, rfl, rfl⟩
      refine ⟨_, rfl, _, _, rfl, rfl, .inr ⟨by decide, by decide⟩, _, rfl, _, rfl, _, _, rfl, rfl, _, _, rfl, rfl, .inr ⟨by omega, by omega⟩, ?_⟩
      refine ⟨some (.int (0 + (i : Int))), ?_, rfl⟩
      rw [choices_succ, Int.zero_add]
      rfl
    · rintro σ H3 ⟨v3, rfl, rfl⟩
      exact ⟨_, rfl, k⟩
theorem ok_number_of_forms (T : Txt K mg) : FnOk PR w K mg base (L2.CX PR w) 4 T.a_number_of_forms T.d_number_of_forms ["width"] sp_number_of_forms := by
  refine T.f_number_of_forms.okX sc_number_of_forms (fun vs H Q E h => ?_) (fun cdv A outer s H vs Q E hr h => ?_)
  · obtain ⟨w, rfl, _⟩ := h
    rfl
  · obtain ⟨w, rfl, w1, w2, k⟩ := h
    refine ⟨_, (pss_cons (ps_expr (pe_call (ok_need_width T) (hr.mono (by decide)) (by rfl) T.g_need_width T.f_need_width.kp (b_need_width T) .nil passX (pa_cons (pv 0) pa_nil))) (pss_one (ps_ret (pe_callB (cr_sum rfl) (by rfl) T.z_sum (by decide +kernel) (pa_cons (pe_lc (own := [("many", 1)]) (g := gName 1) (by rfl) sc_number_of_forms.nd (pi_range1 (by rfl) T.z_range (pa_cons (pe_op op_add (pv 0) pe_int) pa_nil)) (blkOk_by (own := [("many", 1)]) (N := ["width", "many"]) (sc := (defScope s_number_of_forms)) (by decide +kernel)) (fun _ _ _ _ _ => (pg_name (i := 1) sc_number_of_forms.nd rfl (by first | exact Or.inl rfl | exact Or.inr rfl))) (fun _ _ _ _ _ => pts_nil) (fun _ _ _ _ _ => (pe_op op_mul (pe_call (ok_choices T) (hr.mono (by decide)) (by rfl) T.g_choices T.f_choices.kp (b_choices T) .nil pass0 (pa_cons (pv 0) (pa_cons (pv 1) pa_nil))) (pe_cut (pe_ifExp (pt_cmpR op_gt (pv 1) pe_int (nomark _)) pe_int pe_int))))) pa_nil))))), ?_⟩
    refine ⟨_, rfl, _, rfl, by omega, ?_⟩
    refine ⟨_, rfl, _, _, rfl, rfl, _, rfl, by omega, by omega, fun D hD => lc_range (lo := 0) (n := (((w : Nat) : Int) + 1).toNat) (fun i H' => Ex H H' ∧ H' D = some (.lst (((List.range i).map (formsTerm w)).map V.int))) ⟨Evl.Ex.new hD, upd_same⟩ ?_ ?_⟩
    · rintro i H3 hi ⟨e3, d3⟩
      refine ⟨rfl, ?_⟩
      show _
      refine ⟨_, rfl, _, rfl, (w : Int), i, ?_, by omega, by omega, by omega, ?_⟩
      · rw [Int.zero_add]
        rfl
      refine ⟨fun v H' => v = .int (if i > 1 then 2 else 1) ∧ H' = H3, ?_, ?_⟩
      · refine ⟨_, rfl, _, _, rfl, rfl, _, rfl, ?_⟩
        refine ifB (fun c => ?_) (fun c => ?_)
        · have c := of_decide_eq_true c
          rw [if_pos (show i > 1 by omega)]
          exact ⟨rfl, rfl⟩
        · have c := of_decide_eq_false c
          rw [if_neg (show ¬ i > 1 by omega)]
          exact ⟨rfl, rfl⟩
      rintro v H' ⟨rfl, rfl⟩
      refine ⟨_, _, rfl, rfl, .inr ⟨by split <;> omega, by split <;> omega⟩, _, d3, ?_, Evl.Ex.mut e3 hD, ?_⟩
      · rw [List.length_map, List.length_map, List.length_range]
        exact Nat.lt_of_lt_of_le (show i < 100 by omega) (by decide)
      · rw [upd_same, List.range_succ, List.map_append, List.map_append]
        rfl
    · rintro H3 ⟨e3, d3⟩
      refine ⟨_, _, rfl, sqI d3, ?_⟩
      have : (((w : Nat) : Int) + 1).toNat = w + 1 := by omega
      rw [this]
      exact k H3 e3
theorem ok_need_column (T : Txt K mg) : FnOk PR w K mg base (L2.CX PR w) 3 T.a_need_column T.d_need_column ["width", "column"] sp_need_column := by
  refine T.f_need_column.okX sc_need_column (fun vs H Q E h => ?_) (fun cdv A outer s H vs Q E hr h => ?_)
  · obtain ⟨w, c, rfl, _⟩ := h
    rfl
  · obtain ⟨w, c, rfl, c0, c1, k⟩ := h
    refine ⟨_, (pss_one (ps_if (pt_not (pt_chain op_le op_lt pe_int (pv 1) (pv 0))) (pss_one (ps_raise rfl (takes_of rfl rfl rfl rfl) (pmk_err (ok_init T) (b_init T) T.e_InvalidColumn (hr.mono (by decide)) (by rfl) T.g_InvalidColumn (pa_cons (pv 1) pa_nil)))) pss_nil)), ?_⟩
    refine ⟨_, rfl, _, _, rfl, rfl, _, rfl, ?_⟩
    refine ifT (decide_eq_true c0) ?_
    refine ⟨_, rfl, _, _, rfl, rfl, ?_⟩
    refine ⟨_, rfl, ifF ?_ k⟩
    show (!decide (c < w)) = false
    rw [decide_eq_true c1]
    rfl
theorem ok_number_made (T : Txt K mg) : FnOk PR w K mg base (L2.CX PR w) 4 T.a_number_made T.d_number_made ["width", "form"] (sp_number_made K) := by
  refine T.f_number_made.okX sc_number_made (fun vs H Q E h => ?_) (fun cdv A outer s H vs Q E hr h => ?_)
  · obtain ⟨w, v, f, rfl, _⟩ := h
    rfl
  · obtain ⟨w, v, ⟨ks, b⟩, rfl, hf, w1, w2, fl, h1, hc, k⟩ := h
    refine ⟨_, (pss_cons (ps_expr (pe_call (ok_need_width T) (hr.mono (by decide)) (by rfl) T.g_need_width T.f_need_width.kp (b_need_width T) .nil passX (pa_cons (pv 0) pa_nil))) (pss_cons (ps_expr (pe_call (ok_need_form T) (hr.mono (by decide)) (by rfl) T.g_need_form T.f_need_form.kp (b_need_form T) .nil passX (pa_cons (pv 1) pa_nil))) (pss_cons (ps_for (passes_of rfl) rfl (pi_list (pe_call (ok_columns_of T) (hr.mono (by decide)) (by rfl) T.g_columns_of T.f_columns_of.kp (b_columns_of T) .nil pass0 (pa_cons (pe_ix ix_tup (pv 1) pe_int (fun _ _ => rfl)) pa_nil))) (pg_name (i := 2) sc_number_made.nd rfl (by first | exact Or.inl rfl | exact Or.inr rfl)) (pss_one (ps_expr (pe_call (ok_need_column T) (hr.mono (by decide)) (by rfl) T.g_need_column T.f_need_column.kp (b_need_column T) .nil passX (pa_cons (pv 0) (pa_cons (pv 2) pa_nil)))))) (pss_cons (ps_set (i := 3) sc_number_made.nd rfl (by first | exact Or.inl rfl | exact Or.inr rfl) (pe_op op_sub (pv 0) (pe_callB call_len_seq (by rfl) T.z_len PySem.boot_len (pa_cons (pe_ix ix_tup (pv 1) pe_int (fun _ _ => rfl)) pa_nil)))) (pss_one (ps_ret (pe_op op_mul (pe_callB (cr_sum rfl) (by rfl) T.z_sum (by decide +kernel) (pa_cons (pe_lc (own := [("many", 4)]) (g := gName 4) (by rfl) sc_number_made.nd (pi_range1 (by rfl) T.z_range (pa_cons (pe_op op_add (pv 3) pe_int) pa_nil)) (blkOk_by (own := [("many", 4)]) (N := ["width", "form", "column", "left", "many"]) (sc := (defScope s_number_made)) (by decide +kernel)) (fun _ _ _ _ _ => (pg_name (i := 4) sc_number_made.nd rfl (by first | exact Or.inl rfl | exact Or.inr rfl))) (fun _ _ _ _ _ => pts_nil) (fun _ _ _ _ _ => (pe_call (ok_choices T) (hr.mono (by decide)) (by rfl) T.g_choices T.f_choices.kp (b_choices T) .nil pass0 (pa_cons (pv 3) (pa_cons (pv 4) pa_nil))))) pa_nil)) (pe_cut (pe_ifExp (pt_truth (pe_ix ix_tup (pv 1) pe_int (fun _ _ => rfl)) (by intro _; rfl)) pe_int pe_int))))))))), ?_⟩
    have fl : ks.length ≤ w := fl
    have hc : ∀ c ∈ cols ks, 0 ≤ c ∧ c < (w : Int) := hc
    obtain ⟨p, q, rfl, hp, hq⟩ := id hf
    refine ⟨_, rfl, _, rfl, by omega, ?_⟩
    refine ⟨_, rfl, .ref p, (ks, b), rfl, hf.q, by show ks.length ≤ 500; omega, h1, fun H1 e1 => ?_⟩
    have hp1 := e1 _ _ hp
    refine ⟨_, rfl, _, _, _, _, rfl, rfl, sqT hp1, at0, q, ks, rfl, hq.ex e1, by omega, fun D H2 n2 e2 h2 => ?_⟩
    refine ⟨D, rfl, ⟨_, sqI h2⟩, for_list (K := K) (a := D) (xs := (cols ks).map V.int) (fun i σ H' => ∃ v2, σ = [some (.int (w : Nat)), some (.ref p), v2, none, none] ∧ H2 = H') ⟨_, rfl, rfl⟩ (fun i σ H' _ ⟨_, _, e⟩ => e ▸ sqI h2) ?_ ?_⟩
    · rintro i x σ H3 hx ⟨v2, rfl, rfl⟩
      obtain ⟨c, hci, rfl⟩ := mapI_get hx
      have := hc c (List.mem_of_getElem? hci)
      refine ⟨_, rfl, _, rfl, (w : Int), c, rfl, this.1, this.2, ?_⟩
      exact ⟨_, rfl, rfl⟩
    · rintro σ H3 ⟨v2, rfl, rfl⟩
      have hp2 := e2 _ _ hp1
      obtain ⟨us, hu, hk⟩ := id (hq.ex (e1.trans e2))
      have ul : us.length = ks.length := hk.1
      refine ⟨_, rfl, _, rfl, _, _, _, _, rfl, rfl, sqT hp2, at0, _, _, rfl, .inl (sqI hu), _, _, rfl, rfl, ?_⟩
      have el : ((w : Nat) : Int) - ((us.length : Nat) : Int) = ((w - ks.length : Nat) : Int) := by omega
      show gName 3 (V.int (((w : Nat) : Int) - ((us.length : Nat) : Int))) _ _ _
      rw [el]
      refine ⟨_, rfl, _, _, rfl, rfl, _, rfl, by omega, by omega, fun D2 hD2 => lc_range (lo := 0) (n := (((w - ks.length : Nat) : Int) + 1).toNat) (fun i H' => Ex H2 H' ∧ H' D2 = some (.lst (((List.range i).map (choicesI ((w - ks.length : Nat) : Int))).map V.int))) ⟨Evl.Ex.new hD2, upd_same⟩ ?_ ?_⟩
      · rintro i H3 hi ⟨e3, d3⟩
        refine ⟨rfl, ?_⟩
        show _
        refine ⟨_, rfl, _, rfl, ((w - ks.length : Nat) : Int), i, ?_, by omega, by omega, by omega, ?_⟩
        · rw [Int.zero_add]
          rfl
        refine ⟨_, d3, ?_, Evl.Ex.mut e3 hD2, ?_⟩
        · rw [List.length_map, List.length_map, List.length_range]
          exact Nat.lt_of_lt_of_le (show i < 100 by omega) (by decide)
        · rw [upd_same, List.range_succ, List.map_append, List.map_append]
          rfl
      · rintro H3 ⟨e3, d3⟩
        refine ⟨_, _, rfl, sqI d3, ?_⟩
        have e13 := e1.trans (e2.trans e3)
        refine ⟨fun v H' => v = .int (if b = true then 2 else 1) ∧ H3 = H', ?_, ?_⟩
        · refine ⟨_, rfl, _, _, _, _, rfl, rfl, sqT (e13 _ _ hp), at1, _, rfl, ?_⟩
          cases b with
          | true => exact ifT rfl ⟨rfl, rfl⟩
          | false => exact ifF rfl ⟨rfl, rfl⟩
        rintro v H' ⟨rfl, rfl⟩
        refine ⟨_, _, rfl, rfl, .inr ⟨by split <;> omega, by split <;> omega⟩, ?_⟩
        have : (((w - ks.length : Nat) : Int) + 1).toNat = w - ks.length + 1 := by omega
        rw [this]
        exact k H3 e13
theorem ok_repeated (T : Txt K mg) : FnOk PR w K mg base (L2.CX PR w) 4 T.a_repeated T.d_repeated ["form", "times"] (sp_repeated K) := by
  refine T.f_repeated.okX sc_repeated (fun vs H Q E h => ?_) (fun cdv A outer s H vs Q E hr h => ?_)
  · obtain ⟨v, f, t, rfl, _⟩ := h
    rfl
  · obtain ⟨v, ⟨ks, b⟩, t, rfl, hf, fl, h1, ht, k⟩ := h
    refine ⟨_, (pss_cons (ps_expr (pe_call (ok_need_form T) (hr.mono (by decide)) (by rfl) T.g_need_form T.f_need_form.kp (b_need_form T) .nil passX (pa_cons (pv 0) pa_nil))) (pss_cons (ps_if (pt_cmpR op_lt (pv 1) pe_int (nomark _)) (pss_one (ps_raise rfl (takes_of rfl rfl rfl rfl) (pmk_err (ok_init T) (b_init T) T.e_InvalidNumber (hr.mono (by decide)) (by rfl) T.g_InvalidNumber (pa_cons (pv 1) pa_nil)))) pss_nil) (pss_cons (ps_asg (pv 0) (pg_tup rfl (pgs_cons (pg_name (i := 2) sc_repeated.nd rfl (by first | exact Or.inl rfl | exact Or.inr rfl)) (pgs_cons (pg_name (i := 3) sc_repeated.nd rfl (by first | exact Or.inl rfl | exact Or.inr rfl)) pgs_nil)))) (pss_cons (ps_if (pt_cmpR op_eq (pv 1) pe_int (nomark _)) (pss_one (ps_ret (pe_tupG (pa_cons (pe_lstG pa_nil) (pa_cons pe_bl pa_nil))))) pss_nil) (pss_cons (ps_if (pt_cmpR op_eq (pe_callB call_len_seq (by rfl) T.z_len PySem.boot_len (pa_cons (pv 2) pa_nil)) pe_int (nomark _)) (pss_cons (ps_asg (pe_ix ix_list (pv 2) pe_int (fun _ _ => rfl)) (pg_tup rfl (pgs_cons (pg_name (i := 4) sc_repeated.nd rfl (by first | exact Or.inl rfl | exact Or.inr rfl)) (pgs_cons (pg_name (i := 5) sc_repeated.nd rfl (by first | exact Or.inl rfl | exact Or.inr rfl)) pgs_nil)))) (pss_one (ps_ret (pe_tupG (pa_cons (pe_lstG (pa_cons (pe_tupG (pa_cons (pv 4) (pa_cons (pe_cut (pe_ifExp (PW.pt (pw_and (pt_cmpR op_eq (pv 5) pe_int (nomark _)) (pw_and1 (pt_cmpR op_eq (pe_op op_mod (pv 1) pe_int) pe_int (nomark _))))) pe_int (pe_un un_neg pe_int))) pa_nil))) pa_nil)) (pa_cons pe_bl pa_nil)))))) pss_nil) (pss_one (ps_ret (pe_tupG (pa_cons (pe_callTy call_listG (by rfl) T.z_list (by decide +kernel) (pa_cons (pv 2) pa_nil)) (pa_cons (pe_cut (pe_and (pv 3) (pe_one (pe_cmpR op_eq (pv 1) pe_int (nomark _))))) pa_nil)))))))))), ?_⟩
    have fl : ks.length ≤ 200 := fl
    obtain ⟨p, q, rfl, hp, hq⟩ := id hf
    refine ⟨_, rfl, .ref p, (ks, b), rfl, hf.q, by show ks.length ≤ 500; omega, h1, fun H1 e1 => ?_⟩
    refine ⟨_, rfl, _, _, rfl, rfl, _, rfl, ifF (decide_eq_false (by omega)) ?_⟩
    have hp1 := e1 _ _ hp
    refine ⟨_, rfl, _, _, rfl, sqT hp1, rfl, _, _, rfl, _, _, rfl, rfl, ?_⟩
    refine ⟨_, rfl, rfl, _, rfl, ?_⟩
    rw [decInt]
    unfold repL at k
    refine ifB (fun c => ?_) (fun c => ?_)
    · have c : t = 0 := by have := of_decide_eq_true c; omega
      rw [if_pos c] at k
      refine ⟨(by show 0 ≤ sizeLine; decide), fun p2 H2 n2 e2 h2 => ?_⟩
      refine ⟨(by show 2 ≤ sizeLine; decide), fun p3 H3 n3 e3 h3 => ?_⟩
      exact k _ H3 (e1.trans (e2.trans e3)) ⟨p3, p2, rfl, none_of e1 n2, h3, [], e3 _ _ h2, AllR.nil⟩
    · have c : ¬ t = 0 := by have := of_decide_eq_false c; omega
      rw [if_neg c] at k
      obtain ⟨us, hu, hk⟩ := id (hq.ex e1)
      have ul : us.length = ks.length := hk.1
      refine ⟨_, rfl, _, _, rfl, .inl (sqI hu), rfl, _, rfl, ?_⟩
      rw [decInt]
      refine ifB (fun d => ?_) (fun d => ?_)
      · have d : us.length = 1 := by have := of_decide_eq_true d; omega
        obtain ⟨k0, rfl⟩ : ∃ k0, ks = [k0] := by
          match ks, (ul.symm.trans d) with
          | [k0], _ => exact ⟨k0, rfl⟩
        obtain ⟨u0, rfl⟩ : ∃ u0, us = [u0] := by
          match us, d with
          | [u0], _ => exact ⟨u0, rfl⟩
        obtain ⟨q0, rfl, hq0⟩ := hk.2 0 u0 k0 rfl rfl
        refine ⟨_, rfl, _, _, _, _, rfl, rfl, sqI hu, at0, _, _, rfl, hq0, rfl, _, _, rfl, _, _, rfl, rfl, ?_⟩
        refine ⟨_, rfl, ?_⟩
        refine ⟨fun v H' => v = .int (if k0.2 = 1 ∧ t % 2 = 1 then 1 else -1) ∧ H' = H1, ?_, ?_⟩
        · refine ⟨_, rfl, rfl, _, rfl, ?_⟩
          rw [decInt]
          refine ifB (fun x => ?_) (fun x => ?_)
          · have x := of_decide_eq_true x
            refine ⟨_, rfl, _, _, rfl, rfl, (show (0 : Int) < 2 by decide), rfl, _, rfl, ?_⟩
            rw [decInt]
            refine ifB (fun y => ?_) (fun y => ?_)
            · have y := of_decide_eq_true y
              rw [if_pos ⟨x, by omega⟩]
              exact ⟨rfl, rfl⟩
            · have y := of_decide_eq_false y
              rw [if_neg (fun z => y (by omega))]
              exact ⟨_, rfl, rfl, rfl⟩
          · have x := of_decide_eq_false x
            rw [if_neg (fun z => x z.1)]
            exact ⟨_, rfl, rfl, rfl⟩
        rintro v H' ⟨rfl, rfl⟩
        refine ⟨(by show 2 ≤ sizeLine; decide), fun p3 H3 n3 e3 h3 => ?_⟩
        refine ⟨(by show 1 ≤ sizeLine; decide), fun p4 H4 n4 e4 h4 => ?_⟩
        refine ⟨(by show 2 ≤ sizeLine; decide), fun p5 H5 n5 e5 h5 => ?_⟩
        exact k _ H5 (e1.trans (e3.trans (e4.trans e5))) ⟨p5, p4, rfl, none_of (e1.trans e3) n4, h5, _, e5 _ _ h4, AllR.one ⟨p3, rfl, sqT ((e4.trans e5) _ _ h3)⟩⟩
      · have d : ¬ ks.length = 1 := fun z => of_decide_eq_false d (by omega)
        refine ⟨_, rfl, _, _, rfl, .inl (sqI hu), fun p2 H2 n2 e2 h2 => ?_⟩
        refine ⟨fun v' H' => v' = .bl (b && decide (t = 1)) ∧ H' = H2, ?_, ?_⟩
        · refine ⟨_, rfl, _, rfl, ?_⟩
          cases b with
          | false => exact ifF rfl ⟨rfl, rfl⟩
          | true =>
            refine ifT rfl ?_
            refine ⟨_, rfl, rfl, ?_⟩
            rw [decInt, Bool.true_and]
            refine ⟨?_, rfl⟩
            congr 1
            rw [decide_eq_decide]
            omega
        rintro v' H' ⟨rfl, rfl⟩
        refine ⟨(by show 2 ≤ sizeLine; decide), fun p3 H3 n3 e3 h3 => ?_⟩
        refine k _ H3 (e1.trans (e2.trans e3)) ?_
        have er : ∀ g : Fm, g = (ks, b && decide (t = 1)) → FmN K H H3 (.ref p3) (ks, b && decide (t = 1)) → FmN K H H3 (.ref p3) g := fun g e h => e ▸ h
        refine er _ (rep_two d) ?_
        exact ⟨p3, p2, rfl, none_of e1 n2, h3, us, e3 _ _ h2, hk.ex (e2.trans e3)⟩
end
end K10
set_option Elab.async false
set_option pp.maxSteps 1200
set_option linter.all false
set_option maxRecDepth 100000
set_option maxHeartbeats 4000000
namespace K10
open PySem L2 My
open PySem.W (dataLe dataLt alike alikeAll)
/-! ways sorted -/
abbrev eKF : Int × List Int → PyData := eP PyData.int (eL PyData.int)
theorem goodKF : Good eKF 2 := goodP (goodUp goodI (by decide)) (goodL goodI)
theorem alikeL (xs ys : List Int) : alike (eL PyData.int xs) (eL PyData.int ys) = true := by
  unfold eL
  rw [PySem.W.alike]
  exact PySem.W.alike_ints xs ys
theorem alikeKF (bs : List (Int × List Int)) : PySem.W.AllAlike (bs.map eKF) := PySem.W.AllAlike.of fun b b' => by
  show alike (.tuple [.int b.1, eL PyData.int b.2]) (.tuple [.int b'.1, eL PyData.int b'.2]) = true
  have h := alikeL b.2 b'.2
  simp [alike, alikeAll, h]
theorem sortKF (bs : List (Int × List Int)) : PySem.W.Sortable (bs.map eKF) := PySem.W.Sortable.tuples fun b => ⟨_, _, rfl⟩
theorem depKF (bs : List (Int × List Int)) : ∀ d ∈ bs.map eKF, d.depth ≤ 60 := fun d hd => by
  obtain ⟨c, _, rfl⟩ := List.mem_map.mp hd
  have := goodKF.dep c
  omega
def leKF (p q : Int × List Int) : Prop := p.1 < q.1 ∨ (p.1 = q.1 ∧ p.2 ≤ q.2)
instance (p q : Int × List Int) : Decidable (leKF p q) := by unfold leKF; infer_instance
theorem dataKF : dataLe false eKF = fun p q => decide (leKF p q) := by
  rw [PySem.W.dataLe_eq]
  funext p q
  show (!dataLt (.tuple [.int q.1, eL PyData.int q.2]) (.tuple [.int p.1, eL PyData.int p.2])) = _
  rw [PySem.W.dataLt_pair (by simp [alike]) (alikeL _ _), PySem.W.dataLt_int]
  have e1 : PyData.eqv (.int q.1) (.int p.1) = decide (q.1 = p.1) := goodI.eqv _ _
  have e2 : PyData.eqv (eL PyData.int q.2) (eL PyData.int p.2) = decide (q.2 = p.2) := (goodL goodI).eqv _ _
  have e3 : dataLt (eL PyData.int q.2) (eL PyData.int p.2) = decide (q.2 < p.2) := by
    unfold eL
    rw [PySem.W.dataLt_list]
    exact PySem.W.dataLt_ints _ _
  rw [e1, e2, e3]
  by_cases h1 : q.1 = p.1
  · rw [if_pos (decide_eq_true h1)]
    by_cases h2 : q.2 = p.2
    · rw [if_pos (decide_eq_true h2)]
      exact (decide_eq_true (show leKF p q from .inr ⟨h1.symm, h2 ▸ List.le_refl _⟩)).symm
    · rw [if_neg (by simp [h2])]
      by_cases h3 : q.2 < p.2
      · rw [decide_eq_true h3]
        exact (decide_eq_false (show ¬ leKF p q from fun z => z.elim (fun y => by omega) fun y => List.not_lt.mpr y.2 h3)).symm
      · rw [decide_eq_false h3]
        exact (decide_eq_true (show leKF p q from .inr ⟨h1.symm, List.not_lt.mp h3⟩)).symm
  · rw [if_neg (by simp [h1])]
    by_cases h3 : q.1 < p.1
    · rw [decide_eq_true h3]
      exact (decide_eq_false (show ¬ leKF p q from fun z => z.elim (fun y => by omega) fun y => by omega)).symm
    · rw [decide_eq_false h3]
      exact (decide_eq_true (show leKF p q from .inl (by omega))).symm
theorem leKF_trans {a b c : Int × List Int} (h : leKF a b) (k : leKF b c) : leKF a c := by
  unfold leKF at *
  rcases h with h | ⟨h1, h2⟩ <;> rcases k with k | ⟨k1, k2⟩
  · left; omega
  · left; omega
  · left; omega
  · exact .inr ⟨by omega, List.le_trans h2 k2⟩
theorem leKF_total (a b : Int × List Int) : leKF a b ∨ leKF b a := by
  unfold leKF
  rcases (show a.1 < b.1 ∨ b.1 < a.1 ∨ a.1 = b.1 by omega) with h | h | h
  · exact .inl (.inl h)
  · exact .inr (.inl h)
  · rcases List.le_total a.2 b.2 with k | k
    · exact .inl (.inr ⟨h, k⟩)
    · exact .inr (.inr ⟨h.symm, k⟩)
theorem leKF_anti {a b : Int × List Int} (h : leKF a b) (k : leKF b a) : a = b := by
  unfold leKF at *
  have h1 : a.1 = b.1 := by omega
  have h2 : a.2 = b.2 := by
    rcases h with h | ⟨_, h⟩
    · omega
    · rcases k with k | ⟨_, k⟩
      · omega
      · exact List.le_antisymm h k
  exact Prod.ext h1 h2
theorem sort_due {w : Nat} {s g : List Ky} (h : okB w s g = true) : ((foundF w s g).map keyF).mergeSort (dataLe false eKF) = (dueF w s g).map keyF ∧ ∀ f ∈ dueF w s g, formL (shortL f) = f := by
  unfold okB at h
  rw [Bool.and_eq_true, Bool.and_eq_true, decide_eq_true_eq, decide_eq_true_eq, List.all_eq_true] at h
  obtain ⟨⟨h1, h2⟩, h3⟩ := h
  refine ⟨?_, fun f hf => of_decide_eq_true (h3 f hf)⟩
  rw [dataKF]
  have pw := List.pairwise_mergeSort (le := fun p q : Int × List Int => decide (leKF p q)) (fun a b c x y => decide_eq_true (leKF_trans (of_decide_eq_true x) (of_decide_eq_true y))) (fun a b => by simpa using leKF_total a b) ((foundF w s g).map keyF)
  have pw := pw.imp (S := leKF) fun h => of_decide_eq_true h
  have pd : ((dueF w s g).map keyF).Pairwise leKF := List.pairwise_map.mpr (h1.imp fun h => h)
  exact List.Perm.eq_of_pairwise (le := leKF) (fun a b _ _ x y => leKF_anti x y) pw pd ((List.mergeSort_perm _ _).trans (h2.map keyF).symm)
/-! objects -/
/-- forms, each with a list of keys of its own -/
def Fms (K : PySem.W.Frag) (H0 H : Hp) (us : List V) (qs : List Addr) (fs : List Fm) : Prop := us.length = fs.length ∧ qs.length = fs.length ∧ qs.Nodup ∧ ∀ (i : Nat) f, fs[i]? = some f → ∃ p q, us[i]? = some (.ref p) ∧ qs[i]? = some q ∧ H p = some (.tup [.ref q, .bl f.2]) ∧ LsK K H q f.1 ∧ H0 q = none
theorem Fms.nil {K : PySem.W.Frag} {H0 H : Hp} : Fms K H0 H [] [] [] := ⟨rfl, rfl, List.nodup_nil, fun i f h => by cases h⟩
theorem Fms.ex {K : PySem.W.Frag} {H0 H H' : Hp} {us : List V} {qs : List Addr} {fs : List Fm} (e : Ex H H') (h : Fms K H0 H us qs fs) : Fms K H0 H' us qs fs := ⟨h.1, h.2.1, h.2.2.1, fun i f hf => let ⟨p, q, a, b, c, d, n⟩ := h.2.2.2 i f hf; ⟨p, q, a, b, e _ _ c, d.ex e, n⟩⟩
theorem Fms.exj {K : PySem.W.Frag} {H0 H H' : Hp} {D : Addr} {ys : List V} {us : List V} {qs : List Addr} {fs : List Fm} (e : Exj D H H') (hD : H D = some (.lst ys)) (n : ∀ q ∈ qs, q ≠ D) (h : Fms K H0 H us qs fs) : Fms K H0 H' us qs fs := ⟨h.1, h.2.1, h.2.2.1, fun i f hf => by
  obtain ⟨p, q, a, b, c, d, m⟩ := h.2.2.2 i f hf
  exact ⟨p, q, a, b, e _ _ (fun z => by rw [z, hD] at c; cases c) c, d.exj e (n q (List.mem_of_getElem? b)) hD, m⟩⟩
theorem Fms.snoc {K : PySem.W.Frag} {H0 H : Hp} {us : List V} {qs : List Addr} {fs : List Fm} {p q : Addr} {f : Fm} (h : Fms K H0 H us qs fs) (nq : q ∉ qs) (hp : H p = some (.tup [.ref q, .bl f.2])) (hq : LsK K H q f.1) (n : H0 q = none) : Fms K H0 H (us ++ [.ref p]) (qs ++ [q]) (fs ++ [f]) := by
  obtain ⟨h1, h2, h3, h4⟩ := h
  refine ⟨by simp [h1], by simp [h2], List.nodup_append.mpr ⟨h3, by simp, fun a ha b hb => ?_⟩, fun i g hg => ?_⟩
  · rw [List.mem_singleton.mp hb]
    exact fun z => nq (z ▸ ha)
  · by_cases z : i < fs.length
    · rw [List.getElem?_append_left z] at hg
      obtain ⟨p', q', a, b, c⟩ := h4 i g hg
      exact ⟨p', q', by rw [List.getElem?_append_left (by omega)]; exact a, by rw [List.getElem?_append_left (by omega)]; exact b, c⟩
    · rw [List.getElem?_append_right (by omega)] at hg
      have e : i - fs.length = 0 := by
        have := (List.getElem?_eq_some_iff.mp hg).1
        simp at this
        omega
      rw [e] at hg
      cases hg
      exact ⟨p, q, by rw [List.getElem?_append_right (by omega), h1, e]; rfl, by rw [List.getElem?_append_right (by omega), h2, e]; rfl, hp, hq, n⟩
theorem Fms.allR {K : PySem.W.Frag} {H0 H : Hp} {us : List V} {qs : List Addr} {fs : List Fm} (h : Fms K H0 H us qs fs) : AllR (FmR K H) us fs := ⟨h.1, fun i v f hv hf => by
  obtain ⟨p, q, a, b, c, d, _⟩ := h.2.2.2 i f hf
  rw [hv] at a
  cases a
  exact ⟨p, q, rfl, c, d⟩⟩
/-- a form whose keys are not at F -/
def FmF (K : PySem.W.Frag) (F : Addr) (H : Hp) (v : V) (f : Fm) : Prop := ∃ p q, v = .ref p ∧ q ≠ F ∧ H p = some (.tup [.ref q, .bl f.2]) ∧ LsK K H q f.1
theorem FmF.exj {K : PySem.W.Frag} {F : Addr} {H H' : Hp} {v : V} {f : Fm} {ys : List V} (e : Exj F H H') (hF : H F = some (.lst ys)) : FmF K F H v f → FmF K F H' v f
  | ⟨p, q, a, n, b, c⟩ => ⟨p, q, a, n, e _ _ (fun z => by rw [z, hF] at b; cases b) b, c.exj e n hF⟩
theorem FmF.r {K : PySem.W.Frag} {F : Addr} {H : Hp} {v : V} {f : Fm} : FmF K F H v f → FmR K H v f
  | ⟨p, q, a, _, b, c⟩ => ⟨p, q, a, b, c⟩
def twoF (ks : List Ky) : List Fm := [(ks, false), (ks, true)]
def sp_all_forms (K : PySem.W.Frag) : Sp := fun vs H Q _ => ∃ (w : Nat), vs = [.int (w : Nat)] ∧ 1 ≤ w ∧ w ≤ 3 ∧ ∀ p H' us, H p = none → Ex H H' → H' p = some (.lst us) → AllR (FmR K H') us (formsL w) → us.length ≤ 1728 → Q (.ref p) H'
def sp_forms_between (K : PySem.W.Frag) : Sp := fun vs H Q _ => ∃ (w : Nat) (p q : Addr) (s g : List Ky), vs = [.int (w : Nat), .ref p, .ref q] ∧ 1 ≤ w ∧ w ≤ 2 ∧ LsK K H p s ∧ LsK K H q g ∧ s.length ≤ 200 ∧ g.length ≤ 200 ∧ KsW w s ∧ KsW w g ∧ ∀ A H' us qs, H A = none → Ex H H' → H' A = some (.lst us) → Fms K H H' us qs (dueF w s g) → (∀ q ∈ qs, q ≠ A) → us.length ≤ 100 → Q (.ref A) H'
section
variable {w : World} {K : PySem.W.Frag} {mg : Str → Option Value} {base : Heap}
theorem ok_all_forms (T : Txt K mg) : FnOk PR w K mg base CX0 3 T.a_all_forms T.d_all_forms ["width"] (sp_all_forms K) := by
  refine T.f_all_forms.ok sc_all_forms (fun vs H Q E h => ?_) (fun cdv A outer s H vs Q E hr h => ?_)
  · obtain ⟨w, rfl, _⟩ := h
    rfl
  · obtain ⟨w, rfl, w1, w3, k⟩ := h
    refine ⟨_, (pss_cons (ps_set (i := 1) sc_all_forms.nd rfl (by first | exact Or.inl rfl | exact Or.inr rfl) (pe_lstG pa_nil)) (pss_cons (ps_for PassesOwn.never rfl (pi_list (pe_call (ok_all_sortings T) (hr.mono (by decide)) (by rfl) T.g_all_sortings T.f_all_sortings.kp (b_all_sortings T) .nil pass0 (pa_cons (pv 0) pa_nil))) (pg_name (i := 2) sc_all_forms.nd rfl (by first | exact Or.inl rfl | exact Or.inr rfl)) (pss_one (ps_expr (pe_bm PySem.F.plainAttrs_list PySem.F.slot_list_extend PySem.F.type_list_extend mt_extend (pv 1) (pa_cons (pe_lc (own := [("bound", 3)]) (g := gName 3) (by rfl) sc_all_forms.nd (pi_tup (pe_tupG (pa_cons pe_bl (pa_cons pe_bl pa_nil)))) (blkOk_by (own := [("bound", 3)]) (N := ["width", "found", "keys", "bound"]) (sc := (defScope s_all_forms)) (by decide +kernel)) (fun _ _ _ _ _ => (pg_name (i := 3) sc_all_forms.nd rfl (by first | exact Or.inl rfl | exact Or.inr rfl))) (fun _ _ _ _ _ => (pts_one (pt_val (pe_call (ok_has_form T) (hr.mono (by decide)) (by rfl) T.g_has_form T.f_has_form.kp (b_has_form T) .nil pass0 (pa_cons (pe_tupG (pa_cons (pv 2) (pa_cons (pv 3) pa_nil))) pa_nil))))) (fun _ _ _ _ _ => (pe_tupG (pa_cons (pv 2) (pa_cons (pv 3) pa_nil))))) pa_nil))))) (pss_one (ps_ret (pv 1))))), ?_⟩
    refine ⟨(by show 0 ≤ sizeLine; decide), fun F H1 nF e1 hF => ?_⟩
    refine ⟨_, rfl, w, rfl, w1, w3, fun A H2 us nA e2 hA aA => ?_⟩
    have hF2 := e2 _ _ hF
    have nAF : A ≠ F := (ne_of_none hF nA).symm
    have ev := every_le w3 w w3
    have ul : us.length ≤ 864 := by
      have := aA.1
      have e : (everyL w).length ≤ 216 * (w + 1) := ev
      omega
    refine ⟨A, rfl, ⟨_, sqI hA⟩, for_it (walk_list (K := K) (a := A) (xs := us)) (fun i σ H' => ∃ (gs : List V) (v2 v3 : Option V), σ = [some (.int (w : Nat)), some (.ref F), v2, v3] ∧ Exj F H2 H' ∧ H' F = some (.lst gs) ∧ AllR (FmF K F H') gs (((everyL w).take i).flatMap fun ks => (twoF ks).filter fun f => hasForm f) ∧ gs.length ≤ 2 * i) ⟨[], _, _, rfl, Exj.refl _ _, hF2, AllR.nil, Nat.le_refl _⟩ (fun i σ H' _ ⟨_, _, _, _, e, _⟩ => sqI (e _ _ nAF hA)) ?_ ?_⟩
    · rintro i v σ HX H3 hi ⟨gs, v2, v3, rfl, e3, g3, a3, l3⟩ ⟨rfl, hv⟩
      obtain ⟨ks, hks, q, rfl, nq, hq⟩ := aA.get hv
      have nqF : q ≠ F := (ne_of_none hF nq).symm
      have hq3 := hq.exj e3 nqF hF2
      have ksl := every_size (List.mem_of_getElem? hks)
      refine ⟨_, rfl, .inl ⟨rfl, _, sqI g3⟩, (by show 2 ≤ sizeLine; decide), fun t1 K1 m1 x1 h1 => ?_⟩
      refine ⟨t1, rfl, ⟨_, sqT h1⟩, fun D hD => lc_it (walk_tup (K := K) (a := t1) (xs := [V.bl false, V.bl true])) (fun j H' => ∃ ds : List V, Ex K1 H' ∧ H' t1 = some (.tup [V.bl false, V.bl true]) ∧ H' D = some (.lst ds) ∧ AllR (fun v f => ∃ p, v = .ref p ∧ p ≠ D ∧ H' p = some (.tup [.ref q, .bl f.2]) ∧ f.1 = ks) ds (((twoF ks).take j).filter fun f => hasForm f) ∧ ds.length ≤ j) ⟨[], Evl.Ex.new hD, ?_, upd_same, AllR.nil, Nat.le_refl _⟩ ?_ ?_ ?_⟩
      · rw [upd_ne (ne_of_none h1 hD)]
        exact h1
      · rintro j H' _ ⟨ds, _, ht, _⟩
        exact sqT ht
      · rintro j x HY K2 hj ⟨ds, x2, ht2, d2, a2, l2⟩ ⟨rfl, hx⟩
        obtain ⟨bb, hbb, hx2, hf⟩ : ∃ bb : Bool, x = .bl bb ∧ (twoF ks)[j]? = some (ks, bb) ∧ j < 2 := by
          have hj : j < 2 := hj
          rcases (show j = 0 ∨ j = 1 by omega) with z | z
          · subst z
            exact ⟨false, (Option.some.inj hx).symm, rfl, hj⟩
          · subst z
            exact ⟨true, (Option.some.inj hx).symm, rfl, hj⟩
        subst hbb
        have t1D : t1 ≠ D := ne_of_none h1 hD
        have hq2 := hq3.ex (x1.trans x2)
        have ef : (((twoF ks).take (j + 1)).filter fun f => hasForm f) = (((twoF ks).take j).filter fun f => hasForm f) ++ (if hasForm (ks, bb) = true then [(ks, bb)] else []) := by
          rw [take_snoc hx2, List.filter_append, List.filter_cons]
          rfl
        rw [ef]
        refine ⟨rfl, ?_⟩
        show _
        refine ⟨_, rfl, _, rfl, (by show 2 ≤ sizeLine; decide), fun t4 K4 m4 x4 h4 => ?_⟩
        refine ⟨.ref t4, (ks, bb), rfl, ⟨t4, q, rfl, sqT h4, (hq2.ex x4).q⟩, by show ks.length ≤ 500; omega, fun K5 x5 => ?_⟩
        refine ⟨_, rfl, ?_⟩
        have x45 := x4.trans x5
        refine ifB (fun c => ?_) (fun c => ?_)
        · refine ⟨_, rfl, _, rfl, (by show 2 ≤ sizeLine; decide), fun t6 K6 m6 x6 h6 => ?_⟩
          have x26 := x45.trans x6
          have d6 := x26 _ _ d2
          refine ⟨ds, d6, Nat.lt_of_le_of_lt (show ds.length ≤ 2 by omega) (by decide), ds ++ [.ref t6], Evl.Ex.mut (x2.trans x26) hD, ?_, upd_same, ?_, by rw [List.length_append]; show _ + 1 ≤ _; omega⟩
          · rw [upd_ne t1D]
            exact x26 _ _ ht2
          · rw [if_pos c]
            refine AllR.snoc (a2.mono fun v f ⟨p, a, n, b, d⟩ => ⟨p, a, n, by rw [upd_ne n]; exact x26 _ _ b, d⟩) ⟨t6, rfl, (ne_of_none (x45 _ _ d2) m6).symm, ?_, rfl⟩
            rw [upd_ne (ne_of_none (x45 _ _ d2) m6).symm]
            exact h6
        · refine ⟨ds, x2.trans x45, x45 _ _ ht2, x45 _ _ d2, ?_, by omega⟩
          rw [if_neg (by rw [c]; exact Bool.false_ne_true), List.append_nil]
          exact a2.mono fun v f ⟨p, a, n, b, d⟩ => ⟨p, a, n, x45 _ _ b, d⟩
      · rintro K2 ⟨ds, x2, ht2, d2, a2, l2⟩
        have l2 : ds.length ≤ 2 := l2
        have x12 := x1.trans x2
        have g2 := x12 _ _ g3
        have ej : Exj F K2 (upd K2 F (.lst (gs ++ ds))) := (Exj.refl _ _).upd
        have hi : i < 864 := by
          have : i < us.length := hi
          omega
        refine ⟨_, _, _, _, rfl, rfl, g2, d2, ?_, ?_⟩
        · exact Nat.le_trans (show gs.length + ds.length ≤ 3000 by omega) (by decide)
        refine ⟨gs ++ ds, _, _, rfl, e3.trans ((Exj.of x12).trans ej), upd_same, ?_, by rw [List.length_append]; omega⟩
        rw [take_snoc hks, List.flatMap_append]
        have e2 : [ks].flatMap (fun ks => (twoF ks).filter fun f => hasForm f) = (twoF ks).filter fun f => hasForm f := by simp
        rw [e2]
        have a2 : AllR _ ds (((twoF ks).take 2).filter fun f => hasForm f) := a2
        have e3 : (twoF ks).take 2 = twoF ks := rfl
        rw [e3] at a2
        refine AllR.append (a3.mono fun v f ⟨p, q', a, n, b, c⟩ => FmF.exj ej g2 ⟨p, q', a, n, x12 _ _ b, c.ex x12⟩) (a2.mono fun v f ⟨p, a, n, b, d⟩ => FmF.exj ej g2 ⟨p, q, a, nqF, b, ?_⟩)
        rw [d]
        exact hq3.ex x12
    · rintro σ H3 ⟨gs, v2, v3, rfl, e3, g3, a3, l3⟩
      have lE : us.length = (everyL w).length := aA.1
      rw [lE, List.take_length] at a3
      refine ⟨_, rfl, k F H3 gs nF ?_ g3 (a3.mono fun v f r => r.r) (by omega)⟩
      intro b o hb
      exact e3 _ _ (ne_of_none hb nF) ((e1.trans e2) _ _ hb)
end
end K10
set_option Elab.async false
set_option pp.maxSteps 1200
set_option linter.all false
set_option maxRecDepth 100000
set_option maxHeartbeats 4000000
namespace K10
open PySem L2 My
open PySem.W (dataLe dataLt alike alikeAll)
/-- a way with its length -/
def WyR (D : Addr) (H : Hp) (v : V) (x : Int × List Int) : Prop := ∃ p q, v = .ref p ∧ p ≠ D ∧ q ≠ D ∧ H p = some (.tup [.int x.1, .ref q]) ∧ H q = some (.lst (x.2.map V.int))
theorem WyR.dp {K : PySem.W.Frag} {D : Addr} {H : Hp} {v : V} {x : Int × List Int} : WyR D H v x → Dp K H v (eKF x)
  | ⟨p, q, a, _, _, b, c⟩ => a ▸ .tup (sqT b) (.cons (.int _) (.cons (dpL (sqI c)) .nil))
theorem form_valid {w : Nat} {f : Fm} (h : f ∈ formsL w) : f.1.length ≤ w ∧ hasForm f = true ∧ Vd f.1 ∧ (f.2 = true → f.1 ≠ []) ∧ (f.1.length = 1 → f.2 = true) := by
  unfold formsL at h
  obtain ⟨ks, hk, h⟩ := List.mem_flatMap.mp h
  obtain ⟨h, hf⟩ := List.mem_filter.mp h
  have e : f.1 = ks := by
    rcases List.mem_cons.mp h with z | z
    · rw [z]
    · rw [List.mem_singleton.mp z]
  have v := every_vk hk
  refine ⟨by rw [e]; exact every_size hk, hf, by rw [e]; exact v.1, fun hb z => ?_, fun hl => ?_⟩
  · have hf : (areKeys f.1 && (decide (f.2 = decide (f.1 ≠ [])) || decide (f.1.length > 1))) = true := hf
    rw [z, hb] at hf
    revert hf
    decide
  · have hf : (areKeys f.1 && (decide (f.2 = decide (f.1 ≠ [])) || decide (f.1.length > 1))) = true := hf
    have ne : f.1 ≠ [] := fun z => by rw [z] at hl; cases hl
    rw [Bool.and_eq_true, Bool.or_eq_true, decide_eq_true_eq, decide_eq_true_eq] at hf
    rcases hf.2 with z | z
    · rw [z]
      exact decide_eq_true ne
    · omega
theorem ksw_every {w : Nat} {s : List Ky} (h : KsW (w : Nat) s) : s ∈ everyL w := mem_every h.1 h.2
theorem forms_len {w : Nat} (w2 : w ≤ 2) : (formsL w).length ≤ 100 := by
  rcases (show w = 0 ∨ w = 1 ∨ w = 2 by omega) with z | z | z <;> rw [z] <;> decide +kernel
theorem found_len {w : Nat} (w2 : w ≤ 2) (s g : List Ky) : (foundF w s g).length ≤ 100 := Nat.le_trans (List.length_filter_le _ _) (forms_len w2)
section
variable {w : World} {K : PySem.W.Frag} {mg : Str → Option Value} {base : Heap}
theorem ok_forms_between (T : Txt K mg) : FnOk PR w K mg base (L2.CX PR w) 4 T.a_forms_between T.d_forms_between ["width", "sorting", "goal"] (sp_forms_between K) := by
  refine T.f_forms_between.okX sc_forms_between (fun vs H Q E h => ?_) (fun cdv A outer s0 H vs Q E hr h => ?_)
  · obtain ⟨w, p, q, s, g, rfl, _⟩ := h
    rfl
  · obtain ⟨w, p, q, s, g, rfl, w1, w2, hs, hg, ls, lg, ks, kg, k⟩ := h
    refine ⟨_, (pss_cons (ps_expr (pe_call (ok_need_width T) (hr.mono (by decide)) (by rfl) T.g_need_width T.f_need_width.kp (b_need_width T) .nil passX (pa_cons (pv 0) pa_nil))) (pss_cons (ps_expr (pe_call (ok_need_sorting T) (hr.mono (by decide)) (by rfl) T.g_need_sorting T.f_need_sorting.kp (b_need_sorting T) .nil passX (pa_cons (pv 0) (pa_cons (pv 1) pa_nil)))) (pss_cons (ps_expr (pe_call (ok_need_sorting T) (hr.mono (by decide)) (by rfl) T.g_need_sorting T.f_need_sorting.kp (b_need_sorting T) .nil passX (pa_cons (pv 0) (pa_cons (pv 2) pa_nil)))) (pss_cons (ps_setLc (i := 3) (own := [("form", 5)]) (g := gName 5) (by rfl) sc_forms_between.nd rfl rfl (sw_true rfl rfl rfl (by decide +kernel)) (pi_list (pe_call (ok_all_forms T) (hr.mono (by decide)) (by rfl) T.g_all_forms T.f_all_forms.kp (b_all_forms T) .nil pass0 (pa_cons (pv 0) pa_nil))) (blkOk_by (own := [("form", 5)]) (N := ["width", "sorting", "goal", "found", "ways", "form", "number", "clicks"]) (sc := (defScope s_forms_between)) (by decide +kernel)) (fun _ _ _ _ _ => (pg_name (i := 5) sc_forms_between.nd rfl (by first | exact Or.inl rfl | exact Or.inr rfl))) (fun _ _ _ _ _ => (pts_one (pt_cmpR (opK (r := rEqD) (K := K) (by rfl) (op_eqD hr.units)) (pe_call (ok_made_of T) (hr.mono (by decide)) (by rfl) T.g_made_of T.f_made_of.kp (b_made_of T) .nil pass0 (pa_cons (pv 5) (pa_cons (pv 1) pa_nil))) (pv 2) (nomark _)))) (fun _ _ _ _ _ => (pv 5))) (pss_cons (ps_set (i := 4) sc_forms_between.nd rfl (by first | exact Or.inl rfl | exact Or.inr rfl) (pe_callB (cr_sortedA hr.units) (by rfl) T.z_sorted (by decide +kernel) (pa_cons (pe_lc (own := [("form", 5)]) (g := gName 5) (by rfl) sc_forms_between.nd (pi_list (pv 3)) (blkOk_by (own := [("form", 5)]) (N := ["width", "sorting", "goal", "found", "ways", "form", "number", "clicks"]) (sc := (defScope s_forms_between)) (by decide +kernel)) (fun _ _ _ _ _ => (pg_name (i := 5) sc_forms_between.nd rfl (by first | exact Or.inl rfl | exact Or.inr rfl))) (fun _ _ _ _ _ => pts_nil) (fun _ _ _ _ _ => (pe_tupG (pa_cons (pe_callB (crK (r := rLenSq) (K := K) (by rfl) call_len_seq) (by rfl) T.z_len PySem.boot_len (pa_cons (pe_call (ok_shortest_clicks T) (hr.mono (by decide)) (by rfl) T.g_shortest_clicks T.f_shortest_clicks.kp (b_shortest_clicks T) .nil pass0 (pa_cons (pv 5) pa_nil)) pa_nil)) (pa_cons (pe_call (ok_shortest_clicks T) (hr.mono (by decide)) (by rfl) T.g_shortest_clicks T.f_shortest_clicks.kp (b_shortest_clicks T) .nil pass0 (pa_cons (pv 5) pa_nil)) pa_nil))))) pa_nil))) (pss_one (ps_ret (pe_lc (own := [("number", 6), ("clicks", 7)]) (g := (gTup K 2 (gCons (gName 6) (gCons (gName 7) gNil)))) (by rfl) sc_forms_between.nd (pi_list (pv 4)) (blkOk_by (own := [("number", 6), ("clicks", 7)]) (N := ["width", "sorting", "goal", "found", "ways", "form", "number", "clicks"]) (sc := (defScope s_forms_between)) (by decide +kernel)) (fun _ _ _ _ _ => (pg_tup rfl (pgs_cons (pg_name (i := 6) sc_forms_between.nd rfl (by first | exact Or.inl rfl | exact Or.inr rfl)) (pgs_cons (pg_name (i := 7) sc_forms_between.nd rfl (by first | exact Or.inl rfl | exact Or.inr rfl)) pgs_nil)))) (fun _ _ _ _ _ => pts_nil) (fun _ _ _ _ _ => (pe_call (ok_made_formN T) (hr.mono (by decide)) (by rfl) T.g_made_form T.f_made_form.kp (b_made_form T) .nil pass0 (pa_cons (pv 7) pa_nil))))))))))), ?_⟩
    refine ⟨_, rfl, _, rfl, by omega, ?_⟩
    refine ⟨_, rfl, _, rfl, (w : Int), p, s, rfl, hs.q, by omega, ks, fun H1 e1 => ?_⟩
    refine ⟨_, rfl, _, rfl, (w : Int), q, g, rfl, (hg.ex e1).q, by omega, kg, fun H2 e2 => ?_⟩
    have e02 := e1.trans e2
    refine ⟨_, rfl, w, rfl, w1, by omega, fun A H3 us nA e3 hA aA ul => ?_⟩
    have e03 := e02.trans e3
    have lF := aA.1
    have fl := forms_len w2
    refine ⟨A, rfl, ⟨_, sqI hA⟩, fun B hB => lc_filtO (K := K) (a := A) (R := FmR K H3) (ys := formsL w) (p := fun f => decide (madeOf f s = g)) (sqI hA) aA hB (by omega) (fun x => rfl) ?_ ?_ ?_⟩
    · intro v f H' hf r e' Z kZ
      obtain ⟨f1, f2, f3, f4, f5⟩ := form_valid hf
      refine ⟨_, rfl, _, rfl, v, p, f, s, rfl, r.ex e', hs.ex (e03.trans e'), by omega, by omega, f4, fun R H4 n4 e4 h4 => ?_⟩
      refine ⟨_, rfl, eqE (goodL goodK) (by decide) h4.dp (hg.ex (e03.trans (e'.trans e4))).dp ⟨_, rfl, ?_⟩⟩
      exact kZ H4 e4
    · intro v H' N kN
      exact ⟨_, rfl, kN⟩
    intro H4 us4 e4 h4 a4
    have a4 : AllR (FmR K H3) us4 (foundF w s g) := a4
    have fl4 := found_len w2 s g
    have l4 := a4.1
    have e04 := e03.trans e4
    -- the ways
    refine ⟨_, rfl, B, rfl, ⟨_, sqI h4⟩, fun C hC => lc_objL (K := K) (a := B) (ys := (foundF w s g).map keyF) (R := fun H v x => WyR C H v x) (sqI h4) hC (by rw [List.length_map, l4]) (Nat.le_trans (show us4.length ≤ 100 by omega) (by decide)) ?_ ?_ ?_⟩
    · rintro H' H'' v x ⟨a, b, r, n1, n2, h1, h2⟩ ej
      exact ⟨a, b, r, n1, n2, ej _ _ n1 h1, ej _ _ n2 h2⟩
    · intro i v x H' e' nC hv hx N Z kN
      obtain ⟨f, hf, r⟩ := a4.get hv
      rw [List.getElem?_map, hf] at hx
      cases hx
      obtain ⟨f1, f2, f3, f4, f5⟩ := form_valid (List.mem_filter.mp (List.mem_of_getElem? hf)).1
      have r' := r.ex (e4.trans e')
      refine ⟨rfl, ?_⟩
      show _
      refine ⟨_, rfl, v, f, rfl, r', by omega, f5, fun q5 H5 n5 e5 h5 => ?_⟩
      refine ⟨_, _, rfl, .inl (sqI h5), ?_⟩
      refine ⟨_, rfl, v, f, rfl, r'.ex e5, by omega, f5, fun q6 H6 n6 e6 h6 => ?_⟩
      refine ⟨(by show 2 ≤ sizeLine; decide), fun q7 H7 n7 e7 h7 => ?_⟩
      rw [List.length_map] at h7
      refine kN _ H7 (e5.trans (e6.trans e7)) ⟨q7, q6, rfl, ne_some (e5.trans e6) n7 nC, ne_some e5 n6 nC, h7, e7 _ _ h6⟩
    intro H5 us5 e5 h5 a5
    have l5 := a5.1
    rw [List.length_map] at l5
    refine ⟨C, us5, ((foundF w s g).map keyF).map eKF, rfl, sqI h5, a5.dp (fun v x r => r.dp), alikeKF _, sortKF _, depKF _, fun S H6 nS e6 hS => ?_⟩
    have sd := sort_due (due_ok w1 w2 (ksw_every ks) (ksw_every kg))
    have sp := (a5.mono fun v x (r : WyR C H5 v x) => (⟨_, _, r.choose_spec.choose_spec⟩ : WyR C H5 v x)).sort eKF
    rw [sd.1] at sp
    have hz : zsort us5 (((foundF w s g).map keyF).map eKF) = zsort us5 (((foundF w s g).map keyF).map eKF) := rfl
    generalize zsort us5 (((foundF w s g).map keyF).map eKF) = zs at hS sp
    have lz := sp.1
    rw [List.length_map] at lz
    have dl : (dueF w s g).length ≤ 100 := by
      have h := congrArg List.length sd.1
      rw [List.length_mergeSort, List.length_map, List.length_map] at h
      omega
    have e06 := e04.trans (e5.trans e6)
    -- the forms
    refine ⟨_, rfl, S, rfl, ⟨_, sqI hS⟩, fun D hD => lc_it (walk_list (K := K) (a := S) (xs := zs)) (fun i H' => ∃ ds qs, Ex H6 H' ∧ H' D = some (.lst ds) ∧ Fms K H6 H' ds qs ((dueF w s g).take i) ∧ (∀ q ∈ qs, q ≠ D) ∧ ds.length = i) ⟨[], [], Evl.Ex.new hD, upd_same, Fms.nil, fun q hq => (by cases hq), rfl⟩ (fun i H' _ ⟨_, _, e, _⟩ => sqI (e _ _ hS)) ?_ ?_⟩
    · rintro i x HX H7 hi ⟨ds, qs, e7, d7, f7, n7, l7⟩ ⟨rfl, hx⟩
      obtain ⟨y, hy, a, b, rfl, _, _, ha, hb⟩ := sp.get hx
      rw [List.getElem?_map] at hy
      obtain ⟨f, hf, rfl⟩ : ∃ f, (dueF w s g)[i]? = some f ∧ keyF f = y := by
        cases z : (dueF w s g)[i]? with
        | none => rw [z] at hy; cases hy
        | some f => rw [z] at hy; exact ⟨f, rfl, Option.some.inj hy⟩
      have fm := sd.2 f (List.mem_of_getElem? hf)
      have ha7 := (e6.trans e7) _ _ ha
      have hb7 : H7 b = some (.lst ((shortL f).map V.int)) := (e6.trans e7) _ _ hb
      have sl : (shortL f).length ≤ 500 := by
        have m : keyF f ∈ (dueF w s g).map keyF := List.mem_map.mpr ⟨f, List.mem_of_getElem? hf, rfl⟩
        rw [← sd.1, (List.mergeSort_perm _ _).mem_iff] at m
        obtain ⟨f', m', e'⟩ := List.mem_map.mp m
        have e' : shortL f' = shortL f := congrArg Prod.snd e'
        have := short_le f'
        have := (form_valid (List.mem_filter.mp m').1).1
        rw [← e']
        omega
      refine ⟨_, _, rfl, sqT ha7, rfl, _, _, rfl, _, _, rfl, rfl, rfl, ?_⟩
      show _
      refine ⟨_, rfl, b, shortL f, rfl, sqI hb7, sl, fun v H8 e8 ⟨p8, q8, hv8, nq8, hp8, hq8⟩ => ?_⟩
      subst hv8
      rw [fm] at hp8 hq8
      have d8 := e8 _ _ d7
      have q8D : q8 ≠ D := (ne_of_none d7 nq8).symm
      have p8D : p8 ≠ D := fun z => by rw [z, d8] at hp8; cases hp8
      have ej : Exj D H8 (upd H8 D (.lst (ds ++ [.ref p8]))) := (Exj.refl _ _).upd
      refine ⟨ds, d8, Nat.lt_of_lt_of_le (show ds.length < 200 by have : i < zs.length := hi; omega) (by decide), ds ++ [.ref p8], qs ++ [q8], Evl.Ex.mut (e7.trans e8) hD, upd_same, ?_, ?_, by simp [l7]⟩
      · rw [take_snoc hf]
        refine Fms.snoc ((f7.ex e8).exj ej d8 n7) (fun m => ?_) (ej _ _ p8D hp8) (hq8.exj ej q8D d8) (none_of e7 nq8)
        obtain ⟨i', hi'⟩ := List.getElem?_of_mem m
        have : i' < ((dueF w s g).take i).length := by
          have := (List.getElem?_eq_some_iff.mp hi').1
          rw [f7.2.1] at this
          exact this
        obtain ⟨p9, q9, _, b9, _, ⟨u9, hu9, _⟩, _⟩ := f7.2.2.2 i' _ (List.getElem?_eq_getElem this)
        rw [hi'] at b9
        cases b9
        rw [nq8] at hu9
        cases hu9
      · intro q' hq'
        rcases List.mem_append.mp hq' with z | z
        · exact n7 q' z
        · rw [List.mem_singleton.mp z]
          exact q8D
    · rintro H7 ⟨ds, qs, e7, d7, f7, n7, l7⟩
      rw [List.take_of_length_le (by omega)] at f7
      refine k D H7 ds qs (none_of e06 hD) (e06.trans e7) d7 ⟨f7.1, f7.2.1, f7.2.2.1, fun i f hf => ?_⟩ n7 (by omega)
      obtain ⟨a, b, c, d, e, l, n⟩ := f7.2.2.2 i f hf
      exact ⟨a, b, c, d, e, l, none_of e06 n⟩
end
end K10
set_option Elab.async false
set_option pp.maxSteps 1200
set_option linter.all false
set_option maxRecDepth 100000
set_option maxHeartbeats 4000000
namespace K10
open PySem L2 My
def sp__law_large : Sp := fun vs H Q _ => ∃ (j : Addr) (lim n : Int), vs = [.ref j, .int lim] ∧ Deck H j n ∧ n ≤ 100000 ∧ 0 < lim ∧ ∀ (t : Nat) (H' : Hp), (t : Int) < lim → Exj j H H' → Deck H' j (n + 5) → Q (.int (t : Nat)) H'
/-- a list of clicks, not at D -/
def ClR (D : Addr) (H : Hp) (v : V) (cs : List Int) : Prop := ∃ p, v = .ref p ∧ p ≠ D ∧ H p = some (.lst (cs.map V.int))
theorem ClR.exj {D : Addr} {H H' : Hp} {v : V} {cs : List Int} (e : Exj D H H') : ClR D H v cs → ClR D H' v cs
  | ⟨p, a, n, h⟩ => ⟨p, a, n, e _ _ n h⟩
theorem ClR.ex {D : Addr} {H H' : Hp} {v : V} {cs : List Int} (e : Ex H H') : ClR D H v cs → ClR D H' v cs
  | ⟨p, a, n, h⟩ => ⟨p, a, n, e _ _ h⟩
def CrR (H : Hp) (v : V) (cs : List Int) : Prop := ∃ p, v = .ref p ∧ H p = some (.lst (cs.map V.int))
theorem CrR.ex {H H' : Hp} {v : V} {cs : List Int} (e : Ex H H') : CrR H v cs → CrR H' v cs
  | ⟨p, a, h⟩ => ⟨p, a, e _ _ h⟩
theorem CrR.exj {D : Addr} {H H' : Hp} {v : V} {cs : List Int} {o : HO} (e : Exj D H H') (hD : ∀ ts : List Int, H D ≠ some (.lst (ts.map V.int))) : CrR H v cs → CrR H' v cs
  | ⟨p, a, h⟩ => ⟨p, a, e _ _ (fun z => by rw [z] at h; exact hD _ h) h⟩
def CrN (H0 H : Hp) (v : V) (cs : List Int) : Prop := ∃ p, v = .ref p ∧ H0 p = none ∧ H p = some (.lst (cs.map V.int))
theorem CrN.ex {H0 H H' : Hp} {v : V} {cs : List Int} (e : Ex H H') : CrN H0 H v cs → CrN H0 H' v cs
  | ⟨p, a, n, h⟩ => ⟨p, a, n, e _ _ h⟩
/-- .. made behind H0 -/
def ClN (H0 : Hp) (D : Addr) (H : Hp) (v : V) (cs : List Int) : Prop := ∃ p, v = .ref p ∧ p ≠ D ∧ H0 p = none ∧ H p = some (.lst (cs.map V.int))
theorem ClN.exj {H0 : Hp} {D : Addr} {H H' : Hp} {v : V} {cs : List Int} (e : Exj D H H') : ClN H0 D H v cs → ClN H0 D H' v cs
  | ⟨p, a, n, m, h⟩ => ⟨p, a, n, m, e _ _ n h⟩
theorem ClN.ex {H0 : Hp} {D : Addr} {H H' : Hp} {v : V} {cs : List Int} (e : Ex H H') : ClN H0 D H v cs → ClN H0 D H' v cs
  | ⟨p, a, n, m, h⟩ => ⟨p, a, n, m, e _ _ h⟩
def sp__law_lists : Sp := fun vs H Q _ => ∃ (w n : Nat), vs = [.int (w : Nat), .int (n : Nat)] ∧ 1 ≤ w ∧ w ≤ 2 ∧ n ≤ 6 ∧ ∀ p H' us, H p = none → Ex H H' → H' p = some (.lst us) → AllR (CrN H H') us (listsL w n) → Q (.ref p) H'
def sp__law_first (K : PySem.W.Frag) : Sp := fun vs H Q _ => ∃ (w : Nat) (v : V) (f : Fm) (cs : List Int), vs = [.int (w : Nat), v] ∧ 1 ≤ w ∧ w ≤ 2 ∧ FmR K H v f ∧ firstF w f = some cs ∧ ∀ p H', Ex H H' → H' p = some (.lst (cs.map V.int)) → Q (.ref p) H'
theorem lists_le {w : Nat} (w2 : w ≤ 2) {n : Nat} (hn : n ≤ 6) : (listsL w n).length ≤ 64 := Nat.le_trans (lists_len w2 n) (Nat.le_trans (Nat.pow_le_pow_right (by omega) hn) (by decide))
theorem all_succ (w n : Nat) : allLists w (n + 1) = allLists w n ++ listsL w n := by
  unfold allLists
  rw [List.range_succ, List.flatMap_append]
  simp
theorem all_split (w i : Nat) : ∀ m, i < m → ∃ R, allLists w m = allLists w i ++ (listsL w i ++ R)
  | 0, h => by omega
  | m + 1, h => by
    by_cases z : i = m
    · exact ⟨[], by rw [all_succ, z, List.append_nil]⟩
    · obtain ⟨R, hR⟩ := all_split w i m (by omega)
      exact ⟨R ++ listsL w m, by rw [all_succ, hR]; simp⟩
section
variable {w : World} {K : PySem.W.Frag} {mg : Str → Option Value} {base : Heap}
theorem ok__law_large (T : Txt K mg) : FnOk PR w K mg base CX0 2 T.a__law_large T.d__law_large ["_law_deck", "_law_limit"] sp__law_large := by
  refine T.f__law_large.ok sc__law_large (fun vs H Q E h => ?_) (fun cdv A outer s H vs Q E hr h => ?_)
  · obtain ⟨j, lim, n, rfl, _⟩ := h
    rfl
  · obtain ⟨j, lim, n, rfl, hj, hn, hl, k⟩ := h
    refine ⟨_, (pss_cons (ps_set (i := 2) sc__law_large.nd rfl (by first | exact Or.inl rfl | exact Or.inr rfl) pe_int) (pss_cons (ps_for PassesOwn.never rfl (pi_range1 (by rfl) T.z_range (pa_cons pe_int pa_nil)) (pg_name (i := 3) sc__law_large.nd rfl (by first | exact Or.inl rfl | exact Or.inr rfl)) (pss_one (ps_set (i := 2) sc__law_large.nd rfl (by first | exact Or.inl rfl | exact Or.inr rfl) (pe_op op_add (pe_op op_mul (pv 2) (pe_op op_powW pe_int pe_int)) (pe_call (ok__law_draw T) (hr.mono (by decide)) (by rfl) T.g__law_draw T.f__law_draw.kp (b__law_draw T) .nil pass0 (pa_cons (pv 0) (pa_cons (pe_op op_powW pe_int pe_int) pa_nil))))))) (pss_one (ps_ret (pe_op op_mod (pe_callTy call_int1 (by rfl) T.z_int (by decide +kernel) (pa_cons (pv 2) pa_nil)) (pv 1)))))), ?_⟩
    refine ⟨_, rfl, by omega, by omega, for_range (lo := 0) (n := ((5 : Int)).toNat) (fun i σ H' => ∃ (t : Int) (v3 : Option V), σ = [some (.ref j), some (.int lim), some (.int t), v3] ∧ Exj j H H' ∧ Deck H' j (n + i)) ⟨0, _, rfl, Exj.refl _ _, hj.mono (by omega)⟩ ?_ ?_⟩
    · rintro i σ H3 hi ⟨t, v3, rfl, x3, j3⟩
      have hi : i < 5 := hi
      refine ⟨_, rfl, _, _, rfl, rfl, (show CPowW 10 13 by constructor <;> decide +kernel), _, _, rfl, rfl, .inr ⟨by decide +kernel, by decide +kernel⟩, _, rfl, _, _, rfl, rfl, (show CPowW 10 13 by constructor <;> decide +kernel), ?_⟩
      refine ⟨j, _, _, rfl, j3, by omega, by decide +kernel, by decide +kernel, fun d H4 d0 d1 x4 j4 => ?_⟩
      refine ⟨_, _, rfl, rfl, ?_⟩
      exact ⟨_, _, rfl, x3.trans x4, j4.mono (by omega)⟩
    · rintro σ H3 ⟨t, v3, rfl, x3, j3⟩
      refine ⟨_, rfl, .inl ⟨_, rfl, ?_⟩⟩
      refine ⟨_, rfl, _, _, rfl, rfl, hl, ?_⟩
      have h0 := Int.emod_nonneg t (show lim ≠ 0 by omega)
      have h1 := Int.emod_lt_of_pos t hl
      obtain ⟨r, hr⟩ : ∃ r : Nat, t % lim = ((r : Nat) : Int) := ⟨(t % lim).toNat, by omega⟩
      rw [hr] at h1
      show Q (.int (t % lim)) H3
      rw [hr]
      exact k r H3 h1 x3 (j3.mono (by show n + ((5 : Nat) : Int) ≤ n + 5; omega))
theorem ok__law_lists (T : Txt K mg) : FnOk PR w K mg base CX0 1 T.a__law_lists T.d__law_lists ["_law_width", "_law_size"] sp__law_lists := by
  refine T.f__law_lists.ok sc__law_lists (fun vs H Q E h => ?_) (fun cdv A outer s H vs Q E hr h => ?_)
  · obtain ⟨w, n, rfl, _⟩ := h
    rfl
  · obtain ⟨w, n, rfl, w1, w2, hn, k⟩ := h
    refine ⟨_, (pss_cons (ps_set (i := 2) sc__law_lists.nd rfl (by first | exact Or.inl rfl | exact Or.inr rfl) (pe_lstG (pa_cons (pe_lstG pa_nil) pa_nil))) (pss_cons (ps_for PassesOwn.never rfl (pi_range1 (by rfl) T.z_range (pa_cons (pv 1) pa_nil)) (pg_name (i := 3) sc__law_lists.nd rfl (by first | exact Or.inl rfl | exact Or.inr rfl)) (pss_cons (ps_set (i := 4) sc__law_lists.nd rfl (by first | exact Or.inl rfl | exact Or.inr rfl) (pe_lstG pa_nil)) (pss_cons (ps_for PassesOwn.never rfl (pi_list (pv 2)) (pg_name (i := 5) sc__law_lists.nd rfl (by first | exact Or.inl rfl | exact Or.inr rfl)) (pss_one (ps_expr (pe_bm PySem.F.plainAttrs_list PySem.F.slot_list_extend PySem.F.type_list_extend mt_extend (pv 4) (pa_cons (pe_lc (own := [("_law_column", 6)]) (g := gName 6) (by rfl) sc__law_lists.nd (pi_range1 (by rfl) T.z_range (pa_cons (pv 0) pa_nil)) (blkOk_by (own := [("_law_column", 6)]) (N := ["_law_width", "_law_size", "_law_found", "_law_turn", "_law_longer", "_law_clicks_here", "_law_column"]) (sc := (defScope s__law_lists)) (by decide +kernel)) (fun _ _ _ _ _ => (pg_name (i := 6) sc__law_lists.nd rfl (by first | exact Or.inl rfl | exact Or.inr rfl))) (fun _ _ _ _ _ => pts_nil) (fun _ _ _ _ _ => (pe_op op_catG (pv 5) (pe_lstG (pa_cons (pv 6) pa_nil))))) pa_nil))))) (pss_one (ps_set (i := 2) sc__law_lists.nd rfl (by first | exact Or.inl rfl | exact Or.inr rfl) (pe_callTy call_listG (by rfl) T.z_list (by decide +kernel) (pa_cons (pv 4) pa_nil))))))) (pss_one (ps_ret (pv 2))))), ?_⟩
    refine ⟨(by show 0 ≤ sizeLine; decide), fun p1 H1 n1 e1 h1 => ?_⟩
    refine ⟨(by show 1 ≤ sizeLine; decide), fun F0 H2 n2 e2 h2 => ?_⟩
    refine ⟨_, rfl, _, rfl, by omega, by omega, for_range (lo := 0) (n := ((n : Nat) : Int).toNat) (fun i σ H' => ∃ (F : Addr) (us : List V) (v3 v4 v5 v6 : Option V), σ = [some (.int (w : Nat)), some (.int (n : Nat)), some (.ref F), v3, v4, v5, v6] ∧ H F = none ∧ Ex H H' ∧ H' F = some (.lst us) ∧ AllR (CrN H H') us (listsL w i)) ⟨F0, [.ref p1], _, _, _, _, rfl, none_of e1 n2, e1.trans e2, h2, AllR.one ⟨p1, rfl, n1, e2 _ _ h1⟩⟩ ?_ ?_⟩
    · rintro i σ H3 hi ⟨F, us, v3, v4, v5, v6, rfl, nF, e3, hF, aF⟩
      have hi : i < n := by omega
      have lF := aF.1
      have ll := lists_le w2 (show i ≤ 6 by omega)
      refine ⟨(by show 0 ≤ sizeLine; decide), fun G H4 nG e4 hG => ?_⟩
      have nFG : F ≠ G := ne_of_none hF nG
      have hF4 := e4 _ _ hF
      have aF4 : AllR (ClN H G H4) us (listsL w i) := aF.mono fun v cs ⟨p, a, n0, h⟩ => ⟨p, a, ne_of_none h nG, n0, e4 _ _ h⟩
      refine ⟨_, rfl, F, rfl, ⟨_, sqI hF4⟩, for_it (walk_list (K := K) (a := F) (xs := us)) (fun i2 σ H' => ∃ (gs : List V) (u3 u5 u6 : Option V), σ = [some (.int (w : Nat)), some (.int (n : Nat)), some (.ref F), u3, some (.ref G), u5, u6] ∧ Exj G H4 H' ∧ H' G = some (.lst gs) ∧ AllR (ClN H G H') gs (((listsL w i).take i2).flatMap (nextC w)) ∧ gs.length = w * i2) ⟨[], _, _, _, rfl, Exj.refl _ _, hG, AllR.nil, by simp⟩ (fun i2 σ H' _ ⟨_, _, _, _, _, e, _⟩ => sqI (e _ _ nFG hF4)) ?_ ?_⟩
      · rintro i2 v σ HX H5 hi2 ⟨gs, u3, u5, u6, rfl, x5, g5, a5, l5⟩ ⟨rfl, hv⟩
        obtain ⟨cs, hcs, r⟩ := aF4.get hv
        obtain ⟨q, rfl, nqG, _, hq⟩ := r.exj x5
        have cl := (lists_mem w i cs (List.mem_of_getElem? hcs)).2
        have i2l : i2 < 64 := by
          have : i2 < us.length := hi2
          omega
        refine ⟨_, rfl, .inl ⟨rfl, _, sqI g5⟩, _, rfl, _, rfl, by omega, by omega, fun D hD => lc_range (lo := 0) (n := ((w : Nat) : Int).toNat) (fun c H' => ∃ ds, Ex H5 H' ∧ H' D = some (.lst ds) ∧ AllR (fun v ds => ∃ p, v = V.ref p ∧ p ≠ D ∧ H5 p = none ∧ H' p = some (.lst (ds.map V.int))) ds ((nextC w cs).take c) ∧ ds.length = c) ⟨[], Evl.Ex.new hD, upd_same, AllR.nil, rfl⟩ ?_ ?_⟩
        · rintro c H6 hc ⟨ds, x6, d6, a6, l6⟩
          have hc : c < w := by omega
          have hn : (nextC w cs)[c]? = some (cs ++ [((c : Nat) : Int)]) := by
            unfold nextC
            rw [List.getElem?_map, List.getElem?_range hc]
            rfl
          refine ⟨rfl, ?_⟩
          show _
          refine ⟨_, rfl, _, rfl, (by show 1 ≤ sizeLine; decide), fun t7 H7 n7 e7 h7 => ?_⟩
          refine ⟨_, _, _, _, rfl, rfl, (x6.trans e7) _ _ hq, h7, ?_, fun t8 H8 n8 e8 h8 => ?_⟩
          · rw [List.length_map]
            exact Nat.le_trans (show cs.length + 1 ≤ 10 by omega) (by decide)
          have x68 := e7.trans e8
          have d8 := x68 _ _ d6
          have n8D : t8 ≠ D := (ne_of_none (e7 _ _ d6) n8).symm
          refine ⟨ds, d8, Nat.lt_of_lt_of_le (show ds.length < 100 by omega) (by decide), ds ++ [.ref t8], Evl.Ex.mut (x6.trans x68) hD, upd_same, ?_, by rw [List.length_append]; show _ + 1 = _; omega⟩
          rw [take_snoc hn]
          refine AllR.snoc (a6.mono fun v es ⟨p, a, m1, m2, h⟩ => ⟨p, a, m1, m2, by rw [upd_ne m1]; exact x68 _ _ h⟩) ⟨t8, rfl, n8D, none_of (x6.trans e7) n8, ?_⟩
          rw [upd_ne n8D, h8, List.map_append, Int.zero_add]
          rfl
        · rintro H6 ⟨ds, x6, d6, a6, l6⟩
          have tk : (nextC w cs).take ((w : Nat) : Int).toNat = nextC w cs := List.take_of_length_le (by simp [nextC])
          rw [tk] at a6
          have l6 : ds.length = w := by rw [l6]; omega
          have g6 := x6 _ _ g5
          have ej : Exj G H6 (upd H6 G (.lst (gs ++ ds))) := (Exj.refl _ _).upd
          refine ⟨_, _, _, _, rfl, rfl, g6, d6, ?_, ?_⟩
          · have : w * i2 ≤ 2 * 64 := Nat.mul_le_mul w2 (by omega)
            exact Nat.le_trans (show gs.length + ds.length ≤ 3000 by omega) (by decide)
          refine ⟨gs ++ ds, _, _, _, rfl, x5.trans ((Exj.of x6).trans ej), upd_same, ?_, by rw [List.length_append, l5, l6, Nat.mul_succ]⟩
          rw [take_snoc hcs, List.flatMap_append]
          have e2 : [cs].flatMap (nextC w) = nextC w cs := by simp
          rw [e2]
          refine AllR.append (a5.mono fun v es r => (r.ex x6).exj ej) (a6.mono fun v es ⟨p, a, m1, m2, h⟩ => ?_)
          have pG : p ≠ G := (ne_of_none g5 m2).symm
          have nG0 : H G = none := none_of e3 nG
          have all5 : Ex H H5 := fun b o hb => x5 _ _ (ne_of_none hb nG0) (e4 _ _ (e3 _ _ hb))
          exact ⟨p, a, pG, none_of all5 m2, ej _ _ pG h⟩
      · rintro σ H5 ⟨gs, u3, u5, u6, rfl, x5, g5, a5, l5⟩
        have lU : us.length = (listsL w i).length := lF
        rw [lU, List.take_length] at a5
        have g64 : gs.length ≤ 128 := by
          have : w * us.length ≤ 2 * 64 := Nat.mul_le_mul w2 (by omega)
          omega
        refine ⟨_, rfl, _, _, rfl, .inl (sqI g5), fun F' H6 n6 e6 h6 => ?_⟩
        have nG0 : H G = none := none_of e3 nG
        have all5 : Ex H H5 := fun b o hb => x5 _ _ (ne_of_none hb nG0) (e4 _ _ (e3 _ _ hb))
        refine ⟨F', gs, _, _, _, _, rfl, none_of all5 n6, all5.trans e6, h6, ?_⟩
        exact a5.mono fun v es ⟨p, a, _, n0, h⟩ => ⟨p, a, n0, e6 _ _ h⟩
    · rintro σ H3 ⟨F, us, v3, v4, v5, v6, rfl, nF, e3, hF, aF⟩
      exact ⟨_, rfl, k F H3 us nF e3 hF aF⟩
theorem ok__law_first (T : Txt K mg) : FnOk PR w K mg base CX0 5 T.a__law_first T.d__law_first ["_law_width", "_law_form"] (sp__law_first K) := by
  refine T.f__law_first.ok sc__law_first (fun vs H Q E h => ?_) (fun cdv A outer s H vs Q E hr h => ?_)
  · obtain ⟨w, v, f, cs, rfl, _⟩ := h
    rfl
  · obtain ⟨w, v, f, cs, rfl, w1, w2, hf, ff, k⟩ := h
    refine ⟨_, (pss_cons (ps_for PassesOwn.never rfl (pi_range1 (by rfl) T.z_range (pa_cons pe_int pa_nil)) (pg_name (i := 2) sc__law_first.nd rfl (by first | exact Or.inl rfl | exact Or.inr rfl)) (pss_one (ps_for PassesOwn.never rfl (pi_list (pe_call (ok__law_lists T) (hr.mono (by decide)) (by rfl) T.g__law_lists T.f__law_lists.kp (b__law_lists T) .nil pass0 (pa_cons (pv 0) (pa_cons (pv 2) pa_nil)))) (pg_name (i := 3) sc__law_first.nd rfl (by first | exact Or.inl rfl | exact Or.inr rfl)) (pss_one (ps_if (pt_cmpR (op_eqD hr.units) (pe_call (ok_form_of T) (hr.mono (by decide)) (by rfl) T.g_form_of T.f_form_of.kp (b_form_of T) .nil passL (pa_cons (pv 3) pa_nil)) (pv 1) (nomark _)) (pss_one (ps_ret (pv 3))) pss_nil))))) (pss_one (ps_ret pe_non))), ?_⟩
    refine ⟨_, rfl, by omega, by omega, for_range (lo := 0) (n := ((7 : Int)).toNat) (fun i σ H' => ∃ v2 v3, σ = [some (.int (w : Nat)), some v, v2, v3] ∧ Ex H H' ∧ (allLists w i).find? (fun cs => decide (formL cs = f)) = none) ⟨_, _, rfl, Evl.Ex.refl _, rfl⟩ ?_ ?_⟩
    · rintro i σ H3 hi ⟨v2, v3, rfl, e3, nn3⟩
      have hi : i < 7 := hi
      obtain ⟨R, hR⟩ := all_split w i 7 hi
      refine ⟨_, rfl, _, rfl, w, i, ?_, w1, w2, by omega, fun F H4 us nF e4 hF aF => ?_⟩
      · rw [Int.zero_add]
        rfl
      refine ⟨F, rfl, ⟨_, sqI hF⟩, for_it (walk_list (K := K) (a := F) (xs := us)) (fun i2 σ H' => ∃ u3, σ = [some (.int (w : Nat)), some v, some (.int (0 + (i : Int))), u3] ∧ Ex H4 H' ∧ ((listsL w i).take i2).find? (fun cs => decide (formL cs = f)) = none) ⟨_, rfl, Evl.Ex.refl _, rfl⟩ (fun i2 σ H' _ ⟨_, _, e, _⟩ => sqI (e _ _ hF)) ?_ ?_⟩
      · rintro i2 x σ HX H5 hi2 ⟨u3, rfl, e5, nn5⟩ ⟨rfl, hv⟩
        obtain ⟨ds, hds, r⟩ := aF.get hv
        obtain ⟨a, rfl, _, ha⟩ := r.ex e5
        obtain ⟨dm, dl⟩ := lists_mem w i ds (List.mem_of_getElem? hds)
        refine ⟨_, rfl, a, ds, rfl, sqI ha, by omega, fun c hc => (dm c hc).1, fun vf H6 e6 f6 => ?_⟩
        have e06 := e3.trans (e4.trans (e5.trans e6))
        refine ⟨_, rfl, eqE goodF (by decide) f6.dp (hf.ex e06).dp ⟨_, rfl, ?_⟩⟩
        have sp : listsL w i = (listsL w i).take i2 ++ (ds :: (listsL w i).drop (i2 + 1)) := by
          have h1 := List.take_append_drop i2 (listsL w i)
          obtain ⟨h2, h3⟩ := List.getElem?_eq_some_iff.mp hds
          rw [List.drop_eq_getElem_cons h2, h3] at h1
          exact h1.symm
        refine ifB (fun c => ?_) (fun c => ?_)
        · have ff' : firstF w f = some ds := by
            unfold firstF
            rw [hR, List.find?_append, nn3, Option.none_or, List.find?_append, sp, List.find?_append, nn5, Option.none_or, List.find?_cons]
            show (match decide (formL ds = f) with | true => some ds | false => _).or _ = _
            rw [c]
            rfl
          rw [ff] at ff'
          cases ff'
          exact ⟨_, rfl, k a H6 e06 (e6 _ _ ha)⟩
        · refine ⟨_, rfl, e5.trans e6, ?_⟩
          rw [take_snoc hds, List.find?_append, nn5, Option.none_or, List.find?_cons]
          show (match decide (formL ds = f) with | true => some ds | false => _) = _
          rw [c]
          rfl
      · rintro σ H5 ⟨u3, rfl, e5, nn5⟩
        have lU : us.length = (listsL w i).length := aF.1
        rw [lU, List.take_length] at nn5
        refine ⟨_, _, rfl, e3.trans (e4.trans e5), ?_⟩
        rw [all_succ, List.find?_append, nn3, Option.none_or, nn5]
    · rintro σ H3 ⟨v2, v3, rfl, e3, nn3⟩
      have nn3 : firstF w f = none := nn3
      rw [ff] at nn3
      cases nn3
end
end K10
set_option Elab.async false
set_option pp.maxSteps 1200
set_option linter.all false
set_option maxRecDepth 100000
set_option maxHeartbeats 4000000
namespace K10
open PySem L2 My
theorem nn {w : Int} {cs : List Int} (h : Many w cs) : ∀ c ∈ cs, 0 ≤ c := fun c hc => (h c hc).1
theorem refs_ne {H : Hp} {p j : Addr} {n : Int} {us : List V} (d : Deck H j n) (h : H p = some (.lst us)) (r : ∀ (i : Nat) v, us[i]? = some v → ∃ q, v = .ref q) : p ≠ j := by
  rintro rfl
  obtain ⟨x, y, z, hj, _⟩ := d
  rw [h] at hj
  cases hj
  obtain ⟨q, e⟩ := r 0 _ rfl
  cases e
theorem LsK.nej {K : PySem.W.Frag} {H : Hp} {p j : Addr} {n : Int} {ks : List Ky} (d : Deck H j n) : LsK K H p ks → p ≠ j
  | ⟨us, h, a⟩ => refs_ne d h fun i v hv => let ⟨_, _, q, e, _⟩ := a.get hv; ⟨q, e⟩
theorem AllR.nej {K : PySem.W.Frag} {H : Hp} {p j : Addr} {n : Int} {us : List V} {xs : List (List Ky)} (d : Deck H j n) (h : H p = some (.lst us)) (a : AllR (LsR K H) us xs) : p ≠ j := refs_ne d h fun i v hv => let ⟨_, _, q, e, _⟩ := a.get hv; ⟨q, e⟩
theorem shapedL {α : Type} [DecidableEq α] {e : α → PyData} {n : Nat} (g : Good e n) (hn : n + 1 ≤ 64) (xs : List α) : SeqAt.shaped (.list (xs.map e)) = true := (goodL g).shaped hn xs
theorem notIn {α : Type} [DecidableEq α] {K : PySem.W.Frag} {H : Hp} {e : α → PyData} {n : Nat} (g : Good e n) (hn : n + 1 ≤ 64) {v u : V} {x : α} {xs : List α} {Q : VK} (h1 : Dp K H v (e x)) (h2 : Dp K H u (eL e xs)) (q : Q (.bl (!decide (x ∈ xs))) H) : My.rInD true K v u H Q :=
  ⟨_, _, h1, h2, g.shaped (by omega) x, shapedL g hn xs, by rw [inD_mem g, if_pos rfl]; exact q⟩
theorem ded_snoc {α : Type} [DecidableEq α] (xs : List α) (x : α) : dedL (xs ++ [x]) = dedStep (dedL xs) x := by
  unfold dedL
  rw [List.foldl_append]
  rfl
theorem numMade_len (w : Nat) (f : Fm) : True := trivial
def sp__law_counts_right : Sp := fun vs H Q _ => ∃ (j : Addr) (n : Int), vs = [.ref j] ∧ Deck H j n ∧ n ≤ 10000 ∧ ∀ H', Exj j H H' → Deck H' j (n + 1000) → Q (.bl true) H'
section
variable {w : World} {K : PySem.W.Frag} {mg : Str → Option Value} {base : Heap}
theorem ok__law_counts_right (T : Txt K mg) : FnOk PR w K mg base CX0 5 T.a__law_counts_right T.d__law_counts_right ["_law_deck"] sp__law_counts_right := by
  refine T.f__law_counts_right.ok sc__law_counts_right (fun vs H Q E h => ?_) (fun cdv A0 outer s H vs Q E0 hr h => ?_)
  · obtain ⟨j, n, rfl, _⟩ := h
    rfl
  · obtain ⟨j, n, rfl, hj, hn, k⟩ := h
    refine ⟨_, (pss_cons (ps_set (i := 1) sc__law_counts_right.nd rfl (by first | exact Or.inl rfl | exact Or.inr rfl) (pe_op op_add pe_int (pe_call (ok__law_draw T) (hr.mono (by decide)) (by rfl) T.g__law_draw T.f__law_draw.kp (b__law_draw T) .nil pass0 (pa_cons (pv 0) (pa_cons pe_int pa_nil))))) (pss_cons (ps_set (i := 2) sc__law_counts_right.nd rfl (by first | exact Or.inl rfl | exact Or.inr rfl) (pe_call (ok__law_every T) (hr.mono (by decide)) (by rfl) T.g__law_every T.f__law_every.kp (b__law_every T) .nil pass0 (pa_cons (pv 1) pa_nil))) (pss_cons (ps_set (i := 3) sc__law_counts_right.nd rfl (by first | exact Or.inl rfl | exact Or.inr rfl) (pe_callB (cr_sum rfl) (by rfl) T.z_sum (by decide +kernel) (pa_cons (pe_lc (own := [("_law_keys_here", 6)]) (g := gName 6) (by rfl) sc__law_counts_right.nd (pi_list (pv 2)) (blkOk_by (own := [("_law_keys_here", 6)]) (N := ["_law_deck", "_law_width", "_law_every_here", "_law_due", "_law_form", "_law_made", "_law_keys_here", "_law_found"]) (sc := (defScope s__law_counts_right)) (by decide +kernel)) (fun _ _ _ _ _ => (pg_name (i := 6) sc__law_counts_right.nd rfl (by first | exact Or.inl rfl | exact Or.inr rfl))) (fun _ _ _ _ _ => pts_nil) (fun _ _ _ _ _ => (pe_op op_add pe_int (pe_callTy call_int1 (by rfl) T.z_int (by decide +kernel) (pa_cons (pe_cmpR op_gt (pe_callB (crK (r := rLenSq) (K := K) (by rfl) call_len_seq) (by rfl) T.z_len PySem.boot_len (pa_cons (pv 6) pa_nil)) pe_int (nomark _)) pa_nil))))) pa_nil))) (pss_cons (ps_if (PW.pt (pw_or (pt_cmpR op_ne (pe_call (ok_number_of_forms T) (hr.mono (by decide)) (by rfl) T.g_number_of_forms T.f_number_of_forms.kp (b_number_of_forms T) .nil passL (pa_cons (pv 1) pa_nil)) (pv 3) (nomark _)) (pw_or1 (pt_cmpR op_ne (pe_callK0 (ok_number_of_forms T) (hr.mono (by decide)) (by rfl) T.g_number_of_forms T.f_number_of_forms.kp (kb_number_of_forms_0_width T) passL (pk_cons (pv 1) pk_nil)) (pv 3) (nomark _))))) (pss_one (ps_ret pe_bl)) pss_nil) (pss_cons (ps_set (i := 4) sc__law_counts_right.nd rfl (by first | exact Or.inl rfl | exact Or.inr rfl) (pe_call (ok_form_of T) (hr.mono (by decide)) (by rfl) T.g_form_of T.f_form_of.kp (b_form_of T) .nil passL (pa_cons (pe_call (ok__law_clicks T) (hr.mono (by decide)) (by rfl) T.g__law_clicks T.f__law_clicks.kp (b__law_clicks T) .nil pass0 (pa_cons (pv 0) (pa_cons (pv 1) (pa_cons pe_int pa_nil)))) pa_nil))) (pss_cons (ps_set (i := 5) sc__law_counts_right.nd rfl (by first | exact Or.inl rfl | exact Or.inr rfl) (pe_lstG pa_nil)) (pss_cons (ps_for PassesOwn.never rfl (pi_list (pv 2)) (pg_name (i := 6) sc__law_counts_right.nd rfl (by first | exact Or.inl rfl | exact Or.inr rfl)) (pss_cons (ps_set (i := 7) sc__law_counts_right.nd rfl (by first | exact Or.inl rfl | exact Or.inr rfl) (pe_call (ok_formed T) (hr.mono (by decide)) (by rfl) T.g_formed T.f_formed.kp (b_formed T) .nil passL (pa_cons (pv 4) (pa_cons (pv 6) pa_nil)))) (pss_one (ps_if (pt_cmpR (op_notInD (u65 hr)) (pv 7) (pv 5) (by rfl)) (pss_one (ps_expr (pe_bm PySem.F.plainAttrs_list PySem.F.slot_list_append PySem.F.type_list_append mt_append (pv 5) (pa_cons (pv 7) pa_nil)))) pss_nil)))) (pss_one (ps_ret (pe_and (pe_cmpR op_eq (pe_call (ok_number_made T) (hr.mono (by decide)) (by rfl) T.g_number_made T.f_number_made.kp (b_number_made T) .nil passL (pa_cons (pv 1) (pa_cons (pv 4) pa_nil))) (pe_callB call_len_seq (by rfl) T.z_len PySem.boot_len (pa_cons (pv 5) pa_nil)) (nomark _)) (pe_one (pe_cmpR op_eq (pe_callK0 (ok_number_made T) (hr.mono (by decide)) (by rfl) T.g_number_made T.f_number_made.kp (kb_number_made_0_form_width T) passL (pk_cons (pv 4) (pk_cons (pv 1) pk_nil))) (pe_callB call_len_seq (by rfl) T.z_len PySem.boot_len (pa_cons (pv 5) pa_nil)) (nomark _))))))))))))), ?_⟩
    refine ⟨_, rfl, j, _, n, rfl, hj, by omega, by omega, by omega, fun d H1 d0 d1 x1 j1 => ?_⟩
    refine ⟨_, _, rfl, rfl, ?_⟩
    obtain ⟨W, hW⟩ : ∃ W : Nat, 1 + d = ((W : Nat) : Int) := ⟨(1 + d).toNat, by omega⟩
    have W1 : 1 ≤ W := by omega
    have W3 : W ≤ 3 := by omega
    refine st_eq (σ' := [some (.ref j), none, none, none, none, none, none, none]) (P := fun σ => gName 1 (V.int (1 + d)) σ H1 _) rfl ?_
    rw [hW]
    refine ⟨_, rfl, W, rfl, W1, W3, fun E H2 us e2 hE aE => ?_⟩
    have j2 := j1.ex e2
    have nEj := AllR.nej j2 hE aE
    have lE := aE.1
    have ev : (everyL W).length ≤ 216 * (W + 1) := every_le W3 W W3
    refine ⟨_, rfl, E, rfl, ⟨_, sqI hE⟩, fun D hD => lc_mapG (K := K) (a := E) (ys := ((everyL W).map fun ks => 1 + (if ks.length > 1 then (1 : Int) else 0)).map V.int) (sqI hE) hD (by simp [lE]) (Nat.le_trans (show us.length ≤ 1000 by omega) (by decide)) ?_ ?_⟩
    · intro i x y H' e' hx hy N Z kN
      obtain ⟨ks, hki, q, rfl, ⟨uk, hu, hk⟩⟩ := aE.get hx
      rw [List.getElem?_map, List.getElem?_map, hki] at hy
      cases hy
      refine ⟨rfl, ?_⟩
      show _
      refine ⟨_, rfl, _, _, rfl, .inl (sqI (e' _ _ hu)), _, _, rfl, rfl, .inr ⟨_, rfl, ?_⟩⟩
      refine ⟨_, _, rfl, rfl, ?_⟩
      have hl : uk.length = ks.length := hk.1
      have : (if decide (((uk.length : Nat) : Int) > 1) = true then (1 : Int) else 0) = (if ks.length > 1 then 1 else 0) := by
        rw [hl]
        by_cases c : ks.length > 1
        · rw [if_pos c, if_pos (decide_eq_true (by omega))]
        · rw [if_neg c, if_neg (by rw [decide_eq_true_eq]; omega)]
      show N (.int (1 + (if decide (((uk.length : Nat) : Int) > 1) = true then (1 : Int) else 0))) H'
      rw [this]
      exact kN H' (Evl.Ex.refl _)
    intro H3 e3 h3
    refine ⟨_, _, rfl, sqI h3, ?_⟩
    have due := forms_due W1 W3
    have ds : (((everyL W).map fun ks => 1 + (if ks.length > 1 then (1 : Int) else 0)).sum) = numForms W := due.symm
    rw [ds]
    refine ⟨_, rfl, W, rfl, W1, by omega, fun H4 e4 => ?_⟩
    refine ⟨_, rfl, rfl, _, rfl, ifF same ?_⟩
    refine ⟨_, rfl, W, rfl, W1, by omega, fun H5 e5 => ?_⟩
    refine ⟨_, rfl, rfl, _, rfl, ifF same ?_⟩
    have e25 := e3.trans (e4.trans e5)
    have j5 := j2.ex e25
    refine ⟨_, rfl, _, rfl, j, _, _, _, rfl, j5, by omega, by omega, by omega, by omega, by omega, fun A cs H6 nA nAj x6 j6 hA cl mc => ?_⟩
    have n0 := nn mc
    refine ⟨A, cs, rfl, sqI hA, by omega, n0, fun vf H7 e7 f7 => ?_⟩
    have mf := mem_forms (w := W) mc
    obtain ⟨g1, g2, g3, g4, g5⟩ := form_valid mf
    have gc : ∀ c ∈ cols (formL cs).1, 0 ≤ c ∧ c < (W : Int) := fun x hx => by
      rcases after_cols.mp hx with z | z
      · exact mc x z
      · cases z
    have mn := made_num W1 W3 mc
    unfold madeNum at mn
    generalize formL cs = f at f7 g1 g2 g3 g4 g5 gc mn
    refine ⟨(by show 0 ≤ sizeLine; decide), fun M H8 nM e8 hM => ?_⟩
    have x58 : Exj j H5 H8 := x6.trans ((Exj.of e7).trans (Exj.of e8))
    have x28 : Exj j H2 H8 := (Exj.of e25).trans x58
    have hE8 := x28 _ _ nEj hE
    have nEM : E ≠ M := ne_of_none ((x6.trans (Exj.of e7)) _ _ nEj (e25 _ _ hE)) nM
    have j7 := j6.ex e7
    have nMj := j7.ne nM
    obtain ⟨yj, hyj⟩ := j2.at
    have aE8 : AllR (LsX K M H8) us (everyL W) := aE.mono fun v ks ⟨p, a, hp⟩ => by
      have pj := hp.nej j2
      have hp7 := hp.exj ((Exj.of e25).trans (x6.trans (Exj.of e7))) pj hyj
      obtain ⟨u, hu, _⟩ := id hp7
      exact ⟨p, a, ne_of_none hu nM, hp7.ex e8⟩
    refine st_eq (σ' := [some (.ref j), some (.int (W : Nat)), some (.ref E), some (.int (numForms W)), some vf, some (.ref M), none, none]) (P := fun σ => tSeq _ _ _ σ H8) rfl ?_
    refine ⟨_, rfl, E, rfl, ⟨_, sqI hE8⟩, for_it (walk_list (K := K) (a := E) (xs := us)) (fun i σ H' => ∃ (ms : List V) (v6 v7 : Option V), σ = [some (.ref j), some (.int (W : Nat)), some (.ref E), some (.int (numForms W)), some vf, some (.ref M), v6, v7] ∧ Exj M H8 H' ∧ H' M = some (.lst ms) ∧ AllR (LsX K M H') ms (dedL (((everyL W).map (madeOf f)).take i)) ∧ ms.length ≤ i) ⟨[], _, _, rfl, Exj.refl _ _, hM, AllR.nil, Nat.le_refl _⟩ (fun i σ H' _ ⟨_, _, _, _, e, _⟩ => sqI (e _ _ nEM hE8)) ?_ ?_⟩
    · rintro i x σ HX H9 hi ⟨ms, v6, v7, rfl, x9, hM9, a9, l9⟩ ⟨rfl, hx⟩
      obtain ⟨ks, hks, r⟩ := aE8.get hx
      obtain ⟨q, rfl, nqM, hq⟩ := r.exj x9 hM
      have vk := every_vk (List.mem_of_getElem? hks)
      have sz := every_size (List.mem_of_getElem? hks)
      have hi : i < 864 := by
        have : i < us.length := hi
        omega
      have f9 : FmR K H9 vf f := by
        obtain ⟨p, q', a, b, c⟩ := f7.ex e8
        refine ⟨p, q', a, x9 _ _ (fun z => by rw [z, hM] at b; cases b) b, c.exj x9 ?_ hM⟩
        obtain ⟨u, hu, _⟩ := id (show LsK K H7 q' f.1 from by
          obtain ⟨p', q'', a', b', c'⟩ := f7
          rw [a] at a'
          cases a'
          rw [e8 _ _ b'] at b
          cases b
          exact c')
        exact ne_of_none hu nM
      refine ⟨_, rfl, _, rfl, vf, q, f, ks, rfl, f9, hq, by omega, by omega, g2, areKeys_of vk.1 (fun c hc => (vk.2 c hc).1), g4, fun R H10 nR e10 hR => ?_⟩
      have hM10 := e10 _ _ hM9
      have nRM : R ≠ M := (ne_of_none hM9 nR).symm
      have a10 : AllR (LsX K M H10) ms (dedL (((everyL W).map (madeOf f)).take i)) := a9.mono fun v ks ⟨p, a, n, h⟩ => ⟨p, a, n, h.ex e10⟩
      have dM : Dp K H10 (.ref M) (eL (eL eK) (dedL (((everyL W).map (madeOf f)).take i))) := .lst (sqI hM10) (a10.dp fun v ks ⟨p, a, n, h⟩ => a ▸ h.dp)
      refine ⟨_, rfl, _, rfl, notIn (goodL goodK) (by decide) hR.dp dM ⟨_, rfl, ?_⟩⟩
      have hmk : ((everyL W).map (madeOf f))[i]? = some (madeOf f ks) := by rw [List.getElem?_map, hks]; rfl
      have dsn : dedL (((everyL W).map (madeOf f)).take (i + 1)) = dedStep (dedL (((everyL W).map (madeOf f)).take i)) (madeOf f ks) := by
        rw [take_snoc hmk, ded_snoc]
      rw [dsn]
      unfold dedStep
      refine ifB (fun c => ?_) (fun c => ?_)
      · have c : madeOf f ks ∉ dedL (((everyL W).map (madeOf f)).take i) := by simpa using c
        rw [if_neg c]
        have ej : Exj M H10 (upd H10 M (.lst (ms ++ [.ref R]))) := (Exj.refl _ _).upd
        refine ⟨_, rfl, .inl ⟨rfl, _, sqI hM10⟩, _, rfl, _, _, _, rfl, rfl, hM10, Nat.lt_of_lt_of_le (show ms.length < 1000 by omega) (by decide), ?_⟩
        refine ⟨ms ++ [.ref R], _, _, rfl, x9.trans ((Exj.of e10).trans ej), upd_same, ?_, by rw [List.length_append]; show _ + 1 ≤ _; omega⟩
        exact AllR.snoc (a10.mono fun v ks r => r.exj ej hM10) ⟨R, rfl, nRM, hR.exj ej nRM hM10⟩
      · have c : madeOf f ks ∈ dedL (((everyL W).map (madeOf f)).take i) := by simpa using c
        rw [if_pos c]
        exact ⟨ms, _, _, rfl, x9.trans (Exj.of e10), hM10, a10, by omega⟩
    · rintro σ H9 ⟨ms, v6, v7, rfl, x9, hM9, a9, l9⟩
      rw [show us.length = ((everyL W).map (madeOf f)).length by rw [List.length_map, lE], List.take_length] at a9
      have lm := a9.1
      rw [← lm] at mn
      have f9 : FmR K H9 vf f := by
        obtain ⟨p, q', a, b, c⟩ := f7
        obtain ⟨u, hu, _⟩ := id c
        exact ⟨p, q', a, x9 _ _ (ne_of_none b nM) (e8 _ _ b), (c.ex e8).exj x9 (ne_of_none hu nM) hM⟩
      refine ⟨_, rfl, _, rfl, W, vf, f, rfl, f9, W1, by omega, g1, g2, gc, fun H10 e10 => ?_⟩
      have hM10 := e10 _ _ hM9
      refine ⟨_, rfl, _, _, rfl, .inl (sqI hM10), rfl, _, rfl, ?_⟩
      have eq : decide (V.int (numMade W f) = V.int ((ms.length : Nat) : Int)) = true := decide_eq_true (by rw [mn])
      refine ifT eq ?_
      refine ⟨_, rfl, _, rfl, W, vf, f, rfl, f9.ex e10, W1, by omega, g1, g2, gc, fun H11 e11 => ?_⟩
      refine ⟨_, rfl, _, _, rfl, .inl (sqI (e11 _ _ hM10)), rfl, ?_⟩
      show Q (.bl (decide (V.int (numMade W f) = V.int ((ms.length : Nat) : Int)))) H11
      rw [eq]
      have nM0 : ∀ b, b ≠ j → ∀ o, H b = some o → b ≠ M := fun b nb o hb => ne_of_none ((x1.trans ((Exj.of e2).trans ((Exj.of e25).trans (x6.trans (Exj.of e7))))) _ _ nb hb) nM
      refine k H11 ?_ ?_
      · intro b o nb hb
        have h8 := (x1.trans ((Exj.of e2).trans x28)) _ _ nb hb
        exact (e10.trans e11) _ _ (x9 _ _ (nM0 b nb o hb) h8)
      · obtain ⟨x, y, z, h, r⟩ := j6.ex (e7.trans e8)
        exact Deck.mono (n := n + 1 + 1000 - 1) (by omega) ⟨x, y, z, (e10.trans e11) _ _ (x9 _ _ nMj.symm h), r.1, r.2.1, r.2.2.1, by have := r.2.2.2; omega⟩
end
end K10
set_option Elab.async false
set_option pp.maxSteps 1200
set_option linter.all false
set_option maxRecDepth 100000
set_option maxHeartbeats 4000000
namespace K10
open PySem L2 My
def sp_form_ofN (K : PySem.W.Frag) : Sp := fun vs H Q _ => ∃ (a : Addr) (cs : List Int), vs = [.ref a] ∧ SqL K H a (cs.map V.int) ∧ cs.length ≤ 500 ∧ (∀ c ∈ cs, 0 ≤ c) ∧ ∀ v H', Ex H H' → FmN K H H' v (formL cs) → Q v H'
def numK (n : Nat) : List Ky := (List.range n).map fun m => ((50 : Int) + ((m : Nat) : Int), (1 : Int))
theorem numK_len (n : Nat) : (numK n).length = n := by simp [numK]
theorem numK_get {n i : Nat} (h : i < n) : (numK n)[i]? = some ((50 : Int) + ((i : Nat) : Int), (1 : Int)) := by
  unfold numK
  rw [List.getElem?_map, List.getElem?_range h]
  rfl
theorem numK_succ (n : Nat) : numK (n + 1) = numK n ++ [((50 : Int) + ((n : Nat) : Int), (1 : Int))] := by
  unfold numK
  rw [List.range_succ, List.map_append]
  rfl
/-- a form made, told on: the last key is the number behind fifty -/
def Told (us : List V) (qs : List Addr) (i m : Nat) (H : Hp) : Prop := ∃ p q ux b, us[m]? = some (.ref p) ∧ qs[m]? = some q ∧ H p = some (.tup [.ref q, .bl b]) ∧ H q = some (.lst ux) ∧ (ux.length ≤ 201 ∧ (¬ m < i → ux.length ≤ 200)) ∧ (m < i → ∃ t, atI ux (-1) = some (.ref t) ∧ H t = some (.tup [.int (50 + (m : Int)), .int 1]))
theorem due_snoc (s g : List Ky) (acc : List Fm) (xs : List (List Int)) (x : List Int) : (xs ++ [x]).foldl (dueStep s g) acc = dueStep s g (xs.foldl (dueStep s g) acc) x := by
  rw [List.foldl_append]
  rfl
theorem due_app (w : Nat) (s g : List Ky) (n : Nat) : (allLists w (n + 1)).foldl (dueStep s g) [] = (listsL w n).foldl (dueStep s g) ((allLists w n).foldl (dueStep s g) []) := by
  rw [all_succ, List.foldl_append]
theorem due_le (s g : List Ky) : ∀ (xs : List (List Int)) (acc : List Fm), (xs.foldl (dueStep s g) acc).length ≤ acc.length + xs.length
  | [], acc => Nat.le_refl _
  | x :: xs, acc => by
    have := due_le s g xs (dueStep s g acc x)
    have h : (dueStep s g acc x).length ≤ acc.length + 1 := by
      unfold dueStep
      split
      · omega
      · rw [List.length_append]
        exact Nat.le_refl _
    show (xs.foldl (dueStep s g) (dueStep s g acc x)).length ≤ _
    rw [List.length_cons]
    omega
theorem all_le {w : Nat} (w2 : w ≤ 2) : ∀ n, n ≤ 7 → (allLists w n).length ≤ 64 * n
  | 0, _ => Nat.le_refl _
  | n + 1, h => by
    have := all_le w2 n (by omega)
    have := lists_le w2 (n := n) (by omega)
    rw [all_succ, List.length_append]
    omega
theorem ksw_len {w : Nat} {ks : List Ky} (h : KsW (w : Nat) ks) : ks.length ≤ w := every_size (ksw_every h)
def sp__law_between_right : Sp := fun vs H Q _ => ∃ (j : Addr) (n : Int), vs = [.ref j] ∧ Deck H j n ∧ n ≤ 10000 ∧ ∀ H', Exj j H H' → Deck H' j (n + 1000) → Q (.bl true) H'
section
variable {w : World} {K : PySem.W.Frag} {mg : Str → Option Value} {base : Heap}
theorem ok_form_ofN (T : Txt K mg) : FnOk PR w K mg base (L2.CX PR w) 4 T.a_form_of T.d_form_of ["clicks"] (sp_form_ofN K) := by
  refine T.f_form_of.okX sc_form_of (fun vs H Q E h => ?_) (fun cdv A outer s H vs Q E hr h => ?_)
  · obtain ⟨a, cs, rfl, _⟩ := h
    rfl
  · obtain ⟨a, cs, rfl, ha, hl, h0, k⟩ := h
    refine ⟨_, (pss_cons (ps_for (passes_of rfl) rfl (pi_list (pv 0)) (pg_name (i := 1) sc_form_of.nd rfl (by first | exact Or.inl rfl | exact Or.inr rfl)) (pss_one (ps_if (pt_cmpR op_lt (pv 1) pe_int (nomark _)) (pss_one (ps_raise rfl (takes_of rfl rfl rfl rfl) (pmk_err (ok_init T) (b_init T) T.e_InvalidColumn (hr.mono (by decide)) (by rfl) T.g_InvalidColumn (pa_cons (pv 1) pa_nil)))) pss_nil))) (pss_one (ps_ret (pe_call (ok_made_formN T) (hr.mono (by decide)) (by rfl) T.g_made_form T.f_made_form.kp (b_made_form T) .nil pass0 (pa_cons (pv 0) pa_nil))))), ?_⟩
    refine ⟨_, rfl, a, rfl, ⟨_, ha⟩, for_list (K := K) (a := a) (xs := cs.map V.int) (fun i σ H' => ∃ v, σ = [some (.ref a), v] ∧ H' = H) ⟨_, rfl, rfl⟩ (fun i σ H' _ ⟨_, _, e⟩ => e ▸ ha) ?_ ?_⟩
    · rintro i x σ H' hi ⟨v, rfl, rfl⟩
      obtain ⟨t, ht, rfl⟩ := mapI_get hi
      have := h0 t (List.mem_of_getElem? ht)
      exact ⟨_, rfl, _, _, rfl, rfl, _, rfl, ifF (decide_eq_false (by omega)) ⟨_, rfl, rfl⟩⟩
    · rintro σ H' ⟨v, rfl, rfl⟩
      exact ⟨_, rfl, a, cs, rfl, ha, hl, k⟩
theorem ok__law_between_right (T : Txt K mg) : FnOk PR w K mg base CX0 5 T.a__law_between_right T.d__law_between_right ["_law_deck"] sp__law_between_right := by
  refine T.f__law_between_right.ok sc__law_between_right (fun vs H Q E h => ?_) (fun cdv A0 outer s0 H vs Q E0 hr h => ?_)
  · obtain ⟨j, n, rfl, _⟩ := h
    rfl
  · obtain ⟨j, n, rfl, hj, hn, k⟩ := h
    refine ⟨_, (pss_cons (ps_set (i := 1) sc__law_between_right.nd rfl (by first | exact Or.inl rfl | exact Or.inr rfl) (pe_op op_add pe_int (pe_call (ok__law_draw T) (hr.mono (by decide)) (by rfl) T.g__law_draw T.f__law_draw.kp (b__law_draw T) .nil pass0 (pa_cons (pv 0) (pa_cons pe_int pa_nil))))) (pss_cons (ps_par (by rfl) sc__law_between_right.nd rfl rfl (by decide) rfl rfl (i := 2) (j := 3) (pa_cons (pe_call (ok__law_keys T) (hr.mono (by decide)) (by rfl) T.g__law_keys T.f__law_keys.kp (b__law_keys T) .nil pass0 (pa_cons (pv 0) (pa_cons (pv 1) pa_nil))) (pa_cons (pe_call (ok__law_keys T) (hr.mono (by decide)) (by rfl) T.g__law_keys T.f__law_keys.kp (b__law_keys T) .nil pass0 (pa_cons (pv 0) (pa_cons (pv 1) pa_nil))) pa_nil)) (by rfl)) (pss_cons (ps_cut (ps_if (pt_cmpR op_eq (pe_call (ok__law_draw T) (hr.mono (by decide)) (by rfl) T.g__law_draw T.f__law_draw.kp (b__law_draw T) .nil pass0 (pa_cons (pv 0) (pa_cons pe_int pa_nil))) pe_int (nomark _)) (pss_one (ps_set (i := 3) sc__law_between_right.nd rfl (by first | exact Or.inl rfl | exact Or.inr rfl) (pe_call (ok__law_after T) (hr.mono (by decide)) (by rfl) T.g__law_after T.f__law_after.kp (b__law_after T) .nil pass0 (pa_cons (pv 2) (pa_cons (pe_call (ok__law_clicks T) (hr.mono (by decide)) (by rfl) T.g__law_clicks T.f__law_clicks.kp (b__law_clicks T) .nil pass0 (pa_cons (pv 0) (pa_cons (pv 1) (pa_cons pe_int pa_nil)))) pa_nil))))) pss_nil)) (pss_cons (ps_set (i := 4) sc__law_between_right.nd rfl (by first | exact Or.inl rfl | exact Or.inr rfl) (pe_lstG pa_nil)) (pss_cons (ps_for PassesOwn.never rfl (pi_range1 (by rfl) T.z_range (pa_cons pe_int pa_nil)) (pg_name (i := 5) sc__law_between_right.nd rfl (by first | exact Or.inl rfl | exact Or.inr rfl)) (pss_one (ps_for PassesOwn.never rfl (pi_list (pe_call (ok__law_lists T) (hr.mono (by decide)) (by rfl) T.g__law_lists T.f__law_lists.kp (b__law_lists T) .nil pass0 (pa_cons (pv 1) (pa_cons (pv 5) pa_nil)))) (pg_name (i := 6) sc__law_between_right.nd rfl (by first | exact Or.inl rfl | exact Or.inr rfl)) (pss_cons (ps_set (i := 7) sc__law_between_right.nd rfl (by first | exact Or.inl rfl | exact Or.inr rfl) (pe_call (ok_form_ofN T) (hr.mono (by decide)) (by rfl) T.g_form_of T.f_form_of.kp (b_form_of T) .nil passL (pa_cons (pv 6) pa_nil))) (pss_one (ps_if (PW.pt (pw_and (pt_cmpR (op_notInD (u65 hr)) (pv 7) (pv 4) (by rfl)) (pw_and1 (pt_cmpR (op_eqD hr.units) (pe_call (ok_formed T) (hr.mono (by decide)) (by rfl) T.g_formed T.f_formed.kp (b_formed T) .nil passL (pa_cons (pv 7) (pa_cons (pv 2) pa_nil))) (pv 3) (nomark _))))) (pss_one (ps_expr (pe_bm PySem.F.plainAttrs_list PySem.F.slot_list_append PySem.F.type_list_append mt_append (pv 4) (pa_cons (pv 7) pa_nil)))) pss_nil)))))) (pss_cons (ps_set (i := 8) sc__law_between_right.nd rfl (by first | exact Or.inl rfl | exact Or.inr rfl) (pe_call (ok_forms_between T) (hr.mono (by decide)) (by rfl) T.g_forms_between T.f_forms_between.kp (b_forms_between T) .nil passL (pa_cons (pv 1) (pa_cons (pv 2) (pa_cons (pv 3) pa_nil))))) (pss_cons (ps_if (PW.pt (pw_or (pt_cmpR (op_neD hr.units) (pv 8) (pv 4) (nomark _)) (pw_or1 (pt_cmpR (op_neD hr.units) (pe_callK0 (ok_forms_between T) (hr.mono (by decide)) (by rfl) T.g_forms_between T.f_forms_between.kp (kb_forms_between_0_goal_sorting_width T) passL (pk_cons (pv 3) (pk_cons (pv 2) (pk_cons (pv 1) pk_nil)))) (pv 4) (nomark _))))) (pss_one (ps_ret pe_bl)) pss_nil) (pss_cons (ps_for PassesOwn.never rfl (pi_range1 (by rfl) T.z_range (pa_cons (pe_callB call_len_seq (by rfl) T.z_len PySem.boot_len (pa_cons (pv 8) pa_nil)) pa_nil)) (pg_name (i := 9) sc__law_between_right.nd rfl (by first | exact Or.inl rfl | exact Or.inr rfl)) (pss_one (ps_expr (pe_bm PySem.F.plainAttrs_list PySem.F.slot_list_append PySem.F.type_list_append mt_append (pe_ix ix_tup (pe_ix ix_list (pv 8) (pv 9) (fun _ _ => rfl)) pe_int (fun _ _ => rfl)) (pa_cons (pe_tupG (pa_cons (pe_op op_add pe_int (pv 9)) (pa_cons pe_int pa_nil))) pa_nil))))) (pss_cons (ps_if (pt_cmpR (op_neD hr.units) (pe_lc (own := [("_law_form", 7)]) (g := gName 7) (by rfl) sc__law_between_right.nd (pi_list (pv 8)) (blkOk_by (own := [("_law_form", 7)]) (N := ["_law_deck", "_law_width", "_law_one", "_law_goal", "_law_due", "_law_size", "_law_clicks_here", "_law_form", "_law_found", "_law_k"]) (sc := (defScope s__law_between_right)) (by decide +kernel)) (fun _ _ _ _ _ => (pg_name (i := 7) sc__law_between_right.nd rfl (by first | exact Or.inl rfl | exact Or.inr rfl))) (fun _ _ _ _ _ => pts_nil) (fun _ _ _ _ _ => (pe_ix (ixK (r := rIxL) (K := K) (by rfl) ix_list) (pe_ix (ixK (r := rIxT) (K := K) (by rfl) ix_tup) (pv 7) pe_int (fun _ _ => rfl)) (pe_un un_neg pe_int) (fun _ _ => rfl)))) (pe_lc (own := [("_law_k", 9)]) (g := gName 9) (by rfl) sc__law_between_right.nd (pi_range1 (by rfl) T.z_range (pa_cons (pe_callB call_len_seq (by rfl) T.z_len PySem.boot_len (pa_cons (pv 8) pa_nil)) pa_nil)) (blkOk_by (own := [("_law_k", 9)]) (N := ["_law_deck", "_law_width", "_law_one", "_law_goal", "_law_due", "_law_size", "_law_clicks_here", "_law_form", "_law_found", "_law_k"]) (sc := (defScope s__law_between_right)) (by decide +kernel)) (fun _ _ _ _ _ => (pg_name (i := 9) sc__law_between_right.nd rfl (by first | exact Or.inl rfl | exact Or.inr rfl))) (fun _ _ _ _ _ => pts_nil) (fun _ _ _ _ _ => (pe_tupG (pa_cons (pe_op op_add pe_int (pv 9)) (pa_cons pe_int pa_nil))))) (nomark _)) (pss_one (ps_ret pe_bl)) pss_nil) (pss_cons (ps_expr (pe_bm PySem.F.plainAttrs_list PySem.F.slot_list_append PySem.F.type_list_append mt_append (pv 8) (pa_cons pe_non pa_nil))) (pss_one (ps_ret (pe_cmpR (op_eqD hr.units) (pe_call (ok_forms_between T) (hr.mono (by decide)) (by rfl) T.g_forms_between T.f_forms_between.kp (b_forms_between T) .nil passL (pa_cons (pv 1) (pa_cons (pv 2) (pa_cons (pv 3) pa_nil)))) (pv 4) (nomark _)))))))))))))), ?_⟩
    refine ⟨_, rfl, j, _, n, rfl, hj, by omega, by omega, by omega, fun d H1 d0 d1 x1 j1 => ?_⟩
    refine ⟨_, _, rfl, rfl, ?_⟩
    obtain ⟨W, hW⟩ : ∃ W : Nat, 1 + d = ((W : Nat) : Int) := ⟨(1 + d).toNat, by omega⟩
    have W1 : 1 ≤ W := by omega
    have W2 : W ≤ 2 := by omega
    refine st_eq (σ' := [some (.ref j), none, none, none, none, none, none, none, none, none]) (P := fun σ => gName 1 (V.int (1 + d)) σ H1 _) rfl ?_
    rw [hW]
    refine ⟨_, rfl, _, rfl, j, W, _, rfl, j1, by omega, by omega, fun P s H2 nP nPj x2 j2 hP ls vs1 ms => ?_⟩
    refine ⟨_, rfl, _, rfl, j, W, _, rfl, j2, by omega, by omega, fun G0 g0 H3 nG nGj x3 j3 hG lg vg mg' => ?_⟩
    refine ⟨_, _, rfl, ?_⟩
    have ks : KsW (W : Nat) s := ⟨vs1, ms⟩
    obtain ⟨y2, hy2⟩ := j2.at
    have hP3 := hP.exj x3 nPj hy2
    refine st_eq (σ' := [some (.ref j), some (.int (W : Nat)), some (.ref P), some (.ref G0), none, none, none, none, none, none]) (P := fun σ => tSeq _ _ _ σ H3) rfl ?_
    refine ⟨fun σ' H' => ∃ (G : Addr) (g : List Ky), σ' = [some (.ref j), some (.int (W : Nat)), some (.ref P), some (.ref G), none, none, none, none, none, none] ∧ Exj j H3 H' ∧ Deck H' j (n + 500) ∧ LsK K H' P s ∧ LsK K H' G g ∧ KsW (W : Nat) g, ?_, ?_⟩
    · refine ⟨_, rfl, j, _, _, rfl, j3, by omega, by decide, by decide, fun d4 H4 _ _ x4 j4 => ?_⟩
      obtain ⟨y3, hy3⟩ := j3.at
      refine ⟨rfl, _, rfl, ?_⟩
      have hP4 := hP3.exj x4 nPj hy3
      refine ifB (fun c => ?_) (fun c => ?_)
      · refine ⟨_, rfl, _, rfl, _, rfl, j, _, _, _, rfl, j4, by omega, by omega, by omega, by omega, by omega, fun A cs H5 nA nAj x5 j5 hA cl mc => ?_⟩
        obtain ⟨y4, hy4⟩ := j4.at
        have hP5 := hP4.exj x5 nPj hy4
        refine ⟨P, A, s, cs, rfl, hP5, sqI hA, by omega, fun G H6 e6 hG6 => ?_⟩
        refine ⟨G, afterL s cs, rfl, x4.trans (x5.trans (Exj.of e6)), (j5.ex e6).mono (by omega), hP5.ex e6, hG6, Vd.after vs1, fun x hx => ?_⟩
        rcases after_cols.mp hx with z | z
        · exact mc x z
        · exact ms x z
      · exact ⟨G0, g0, rfl, x4, j4.mono (by omega), hP4, hG.exj x4 nGj hy3, vg, mg'⟩
    rintro σ' H4 ⟨G, g, rfl, x4, j4, hP4, hG4, kg⟩
    have lg := ksw_len kg
    refine ⟨(by show 0 ≤ sizeLine; decide), fun M H5 nM e5 hM => ?_⟩
    have nMj := j4.ne nM
    have hP5 := hP4.ex e5
    have hG5 := hG4.ex e5
    have back : ∀ {H' : Hp}, Exj M H5 H' → Ex H4 H' := fun x b o hb => x _ _ (ne_of_none hb nM) (e5 _ _ hb)
    refine st_eq (σ' := [some (.ref j), some (.int (W : Nat)), some (.ref P), some (.ref G), some (.ref M), none, none, none, none, none]) (P := fun σ => tSeq _ _ _ σ H5) rfl ?_
    refine ⟨_, rfl, by omega, by omega, for_range (lo := 0) (n := ((6 : Int)).toNat) (fun i σ H' => ∃ (us : List V) (v5 v6 v7 : Option V), σ = [some (.ref j), some (.int (W : Nat)), some (.ref P), some (.ref G), some (.ref M), v5, v6, v7, none, none] ∧ Exj M H5 H' ∧ H' M = some (.lst us) ∧ AllR (FmF K M H') us ((allLists W i).foldl (dueStep s g) [])) ⟨[], _, _, _, rfl, Exj.refl _ _, hM, AllR.nil⟩ ?_ ?_⟩
    · rintro i σ H6 hi ⟨us, v5, v6, v7, rfl, x6, hM6, a6⟩
      have hi : i < 6 := hi
      refine ⟨_, rfl, _, rfl, W, i, ?_, W1, W2, by omega, fun F H7 ls' nF e7 hF aF => ?_⟩
      · rw [Int.zero_add]
        rfl
      have nFM : F ≠ M := (ne_of_none hM6 nF).symm
      have hM7 := e7 _ _ hM6
      have a7 : AllR (FmF K M H7) us ((allLists W i).foldl (dueStep s g) []) := a6.mono fun v f ⟨p, q, a, nn', b, c⟩ => ⟨p, q, a, nn', e7 _ _ b, c.ex e7⟩
      have x7 : Exj M H5 H7 := x6.trans (Exj.of e7)
      have base_len := all_le W2 i (by omega)
      have lists_len' := lists_le W2 (n := i) (by omega)
      have aF7 : AllR (ClR M H7) ls' (listsL W i) := by
        exact aF.mono fun v cs ⟨p, a, n0, h⟩ => ⟨p, a, (ne_of_none hM6 n0).symm, h⟩
      refine ⟨F, rfl, ⟨_, sqI hF⟩, for_it (walk_list (K := K) (a := F) (xs := ls')) (fun i2 σ H' => ∃ (us : List V) (u6 u7 : Option V), σ = [some (.ref j), some (.int (W : Nat)), some (.ref P), some (.ref G), some (.ref M), some (.int (0 + (i : Int))), u6, u7, none, none] ∧ Exj M H7 H' ∧ H' M = some (.lst us) ∧ AllR (FmF K M H') us (((listsL W i).take i2).foldl (dueStep s g) ((allLists W i).foldl (dueStep s g) []))) ⟨us, _, _, rfl, Exj.refl _ _, hM7, a7⟩ (fun i2 σ H' _ ⟨_, _, _, _, e, _⟩ => sqI (e _ _ nFM hF)) ?_ ?_⟩
      · rintro i2 x σ HX H8 hi2 ⟨us, u6, u7, rfl, x8, hM8, a8⟩ ⟨rfl, hv⟩
        obtain ⟨cs, hcs, r⟩ := aF7.get hv
        obtain ⟨a, rfl, naM, ha⟩ := r.exj x8
        obtain ⟨dm, dl⟩ := lists_mem W i cs (List.mem_of_getElem? hcs)
        have n0 : ∀ c ∈ cs, 0 ≤ c := fun c hc => (dm c hc).1
        obtain ⟨g1, g2, g3, g4, g5⟩ := form_valid (mem_forms (w := W) dm)
        have al8 := a8.1
        have dl8 := due_le s g ((listsL W i).take i2) ((allLists W i).foldl (dueStep s g) [])
        have dl7 := due_le s g (allLists W i) []
        have tl : ((listsL W i).take i2).length ≤ 64 := by rw [List.length_take]; omega
        have ul8 : us.length ≤ 600 := by
          have : ([] : List Fm).length = 0 := rfl
          omega
        rw [take_snoc hcs, due_snoc]
        generalize ((listsL W i).take i2).foldl (dueStep s g) ((allLists W i).foldl (dueStep s g) []) = acc at a8
        refine ⟨_, rfl, a, cs, rfl, sqI ha, by omega, n0, fun vf H9 e9 f9 => ?_⟩
        obtain ⟨p9, q9, rfl, nq9, hp9, hq9⟩ := id f9
        have hM9 := e9 _ _ hM8
        have nq9M : q9 ≠ M := (ne_of_none hM8 nq9).symm
        have a9 : AllR (FmF K M H9) us acc := a8.mono fun v f ⟨p, q, a, nn', b, c⟩ => ⟨p, q, a, nn', e9 _ _ b, c.ex e9⟩
        have dM : Dp K H9 (.ref M) (eL eF acc) := .lst (sqI hM9) (a9.dp fun v f r => r.r.dp)
        refine ⟨_, rfl, _, rfl, notIn goodF (by decide) f9.r.dp dM ⟨_, rfl, ?_⟩⟩
        unfold dueStep
        refine ifB (fun c => ?_) (fun c => ?_)
        · have c : formL cs ∉ acc := by simpa using c
          have hP9 := hP4.ex (back (x7.trans (x8.trans (Exj.of e9))))
          have hG9 := hG4.ex (back (x7.trans (x8.trans (Exj.of e9))))
          refine ⟨_, rfl, _, rfl, .ref p9, P, formL cs, s, rfl, f9.r, hP9, by omega, by omega, g2, ks.are, g4, fun R H10 nR e10 hR => ?_⟩
          refine ⟨_, rfl, eqE (goodL goodK) (by decide) hR.dp (hG9.ex e10).dp ⟨_, rfl, ?_⟩⟩
          have hM10 := e10 _ _ hM9
          have a10 : AllR (FmF K M H10) us acc := a9.mono fun v f ⟨p, q, a, nn', b, c⟩ => ⟨p, q, a, nn', e10 _ _ b, c.ex e10⟩
          refine ifB (fun d => ?_) (fun d => ?_)
          · have d : madeOf (formL cs) s = g := of_decide_eq_true d
            rw [if_neg (fun z => z.elim c (fun y => y d))]
            have ej : Exj M H10 (upd H10 M (.lst (us ++ [.ref p9]))) := (Exj.refl _ _).upd
            refine ⟨_, rfl, .inl ⟨rfl, _, sqI hM10⟩, _, rfl, _, _, _, rfl, rfl, hM10, Nat.lt_of_lt_of_le (show us.length < 1000 by omega) (by decide), ?_⟩
            refine ⟨us ++ [.ref p9], _, _, rfl, x8.trans ((Exj.of (e9.trans e10)).trans ej), upd_same, ?_⟩
            exact AllR.snoc (a10.mono fun v f r => r.exj ej hM10) (FmF.exj ej hM10 ⟨p9, q9, rfl, nq9M, e10 _ _ hp9, hq9.ex e10⟩)
          · have d : ¬ madeOf (formL cs) s = g := of_decide_eq_false d
            rw [if_pos (.inr d)]
            exact ⟨us, _, _, rfl, x8.trans (Exj.of (e9.trans e10)), hM10, a10⟩
        · have c : formL cs ∈ acc := by simpa using c
          rw [if_pos (.inl c)]
          exact ⟨us, _, _, rfl, x8.trans (Exj.of e9), hM9, a9⟩
      · rintro σ H8 ⟨us, u6, u7, rfl, x8, hM8, a8⟩
        have lU : ls'.length = (listsL W i).length := aF.1
        rw [lU, List.take_length, ← due_app] at a8
        exact ⟨us, _, _, _, rfl, x7.trans x8, hM8, a8⟩
    · rintro σ H6 ⟨ds, v5, v6, v7, rfl, x6, hM6, a6⟩
      have a6 : AllR (FmF K M H6) ds (dueF W s g) := a6
      have e46 := back x6
      have hP6 := hP4.ex e46
      have hG6 := hG4.ex e46
      refine ⟨_, rfl, _, rfl, _, rfl, W, P, G, s, g, rfl, W1, W2, hP6, hG6, by omega, by omega, ks, kg, fun A H7 us qs nA e7 hA F7 nqA ul => ?_⟩
      have dD : ∀ {H' : Hp}, Ex H6 H' → Dp K H' (.ref M) (eL eF (dueF W s g)) := fun e => .lst (sqI (e _ _ hM6)) (a6.dp fun v f r => (r.r.ex e).dp)
      have dA : Dp K H7 (.ref A) (eL eF (dueF W s g)) := .lst (sqI hA) (F7.allR.dp fun v f r => r.dp)
      refine ⟨_, rfl, _, rfl, neE (goodL goodF) (by decide) dA (dD e7) ⟨_, rfl, ifF same ?_⟩⟩
      refine ⟨_, rfl, _, rfl, _, rfl, W, P, G, s, g, rfl, W1, W2, hP6.ex e7, hG6.ex e7, by omega, by omega, ks, kg, fun A2 H8 us2 qs2 nA2 e8 hA2 F8 _ ul2 => ?_⟩
      have dA2 : Dp K H8 (.ref A2) (eL eF (dueF W s g)) := .lst (sqI hA2) (F8.allR.dp fun v f r => r.dp)
      refine ⟨_, rfl, neE (goodL goodF) (by decide) dA2 (dD (e7.trans e8)) ⟨_, rfl, ifF same ?_⟩⟩
      have F8 := F7.ex e8
      have hA8 := e8 _ _ hA
      have e68 := e7.trans e8
      have qnew : ∀ (m : Nat) q, qs[m]? = some q → H6 q = none := fun m q hq => by
        have : m < (dueF W s g).length := by
          have := (List.getElem?_eq_some_iff.mp hq).1
          rw [F7.2.1] at this
          exact this
        obtain ⟨p', q', _, b, _, _, n'⟩ := F7.2.2.2 m _ (List.getElem?_eq_getElem this)
        rw [hq] at b
        cases b
        exact n'
      refine st_eq (σ' := [some (.ref j), some (.int (W : Nat)), some (.ref P), some (.ref G), some (.ref M), v5, v6, v7, some (.ref A), none]) (P := fun σ => tSeq _ _ _ σ H8) rfl ?_
      have ul7 : us.length = (dueF W s g).length := F7.1
      have dfl : ∀ f ∈ dueF W s g, f.1.length ≤ 2 := fun f hf => by
        have pm : (dueF W s g).Perm (foundF W s g) := by
          have h := due_ok W1 W2 (ksw_every ks) (ksw_every kg)
          unfold okB at h
          rw [Bool.and_eq_true, Bool.and_eq_true, decide_eq_true_eq, decide_eq_true_eq] at h
          exact h.1.2
        have := (form_valid (List.mem_filter.mp (pm.mem_iff.mp hf)).1).1
        omega
      -- told on
      refine ⟨_, rfl, _, _, rfl, .inl (sqI hA8), _, rfl, by omega, by omega, for_range (lo := 0) (n := ((us.length : Nat) : Int).toNat) (fun i σ H' => ∃ v9 : Option V, σ = [some (.ref j), some (.int (W : Nat)), some (.ref P), some (.ref G), some (.ref M), v5, v6, v7, some (.ref A), v9] ∧ Ex H6 H' ∧ H' A = some (.lst us) ∧ ∀ m, m < us.length → Told us qs i m H') ⟨_, rfl, e68, hA8, fun m hm => ?_⟩ ?_ ?_⟩
      · obtain ⟨p, q, a, b, c, ⟨ux, hux, hkx⟩, d⟩ := F8.2.2.2 m _ (List.getElem?_eq_getElem (show m < (dueF W s g).length by omega))
        refine ⟨p, q, ux, _, a, b, c, hux, ⟨?_, fun _ => ?_⟩, fun z => by omega⟩
        all_goals
          have := hkx.1
          have := dfl _ (List.getElem_mem (show m < (dueF W s g).length by omega))
          omega
      · rintro i σ H9 hi ⟨v9, rfl, e9, hA9, t9⟩
        have hi : i < us.length := by omega
        obtain ⟨p, q, ux, b, ha, hb, hp, hq, hl, _⟩ := t9 i hi
        refine ⟨_, rfl, _, rfl, _, _, _, _, rfl, rfl, sqI hA9, ?_, _, _, _, _, rfl, rfl, sqT hp, at0, .inl ⟨rfl, _, sqI hq⟩, _, rfl, _, _, rfl, rfl, (by show 2 ≤ sizeLine; decide), fun t H10 nt e10 ht => ?_⟩
        · exact at_of (j := i) (by omega) ha
        have hq10 := e10 _ _ hq
        refine ⟨_, _, _, rfl, rfl, hq10, Nat.lt_of_le_of_lt (show ux.length ≤ 300 by have := hl.1; omega) (by decide), ?_⟩
        have nq6 := qnew i q hb
        have ntq : t ≠ q := (ne_of_none hq nt).symm
        have nAq : A ≠ q := (nqA q (List.mem_of_getElem? hb)).symm
        refine ⟨_, rfl, Evl.Ex.mut (e9.trans e10) nq6, ?_, fun m hm => ?_⟩
        · rw [upd_ne nAq]
          exact e10 _ _ hA9
        · by_cases z : m = i
          · subst z
            refine ⟨p, q, ux ++ [.ref t], b, ha, hb, ?_, upd_same, ⟨by rw [List.length_append]; show _ + 1 ≤ 201; have := hl.2 (by omega); omega, fun z => by omega⟩, fun _ => ⟨t, atI_last _ _, ?_⟩⟩
            · rw [upd_ne (fun y => by rw [y, hq] at hp; cases hp)]
              exact e10 _ _ hp
            · rw [upd_ne ntq, ht, Int.zero_add]
          · obtain ⟨p', q', ux', b', ha', hb', hp', hq', hl', ht'⟩ := t9 m hm
            have nqq : q' ≠ q := fun y => z (by
              have h1 := List.getElem?_eq_some_iff.mp hb'
              exact (List.getElem?_inj h1.1 F7.2.2.1).mp (hb'.trans ((congrArg some y).trans hb.symm)))
            refine ⟨p', q', ux', b', ha', hb', ?_, ?_, ⟨hl'.1, fun z => hl'.2 (by omega)⟩, fun lt => ?_⟩
            · rw [upd_ne (fun y => by rw [y, hq] at hp'; cases hp')]
              exact e10 _ _ hp'
            · rw [upd_ne nqq]
              exact e10 _ _ hq'
            · obtain ⟨t', a', h'⟩ := ht' (by omega)
              refine ⟨t', a', ?_⟩
              rw [upd_ne (fun y => by rw [y, hq] at h'; cases h')]
              exact e10 _ _ h'
      · rintro σ H9 ⟨v9, rfl, e9, hA9, t9⟩
        have t9 : ∀ m, m < us.length → Told us qs us.length m H9 := fun m hm => by
          have := t9 m hm
          rw [show ((us.length : Nat) : Int).toNat = us.length by omega] at this
          exact this
        have fl : (numK us.length).length = us.length := numK_len _
        refine ⟨_, rfl, A, rfl, ⟨_, sqI hA9⟩, fun D hD => lc_objL (K := K) (a := A) (ys := numK us.length) (R := fun H v (x : Ky) => ∃ t, v = .ref t ∧ t ≠ D ∧ H t = some (.tup [.int x.1, .int x.2])) (sqI hA9) hD fl (Nat.le_trans ul (by decide)) ?_ ?_ ?_⟩
        · rintro H' H'' v x ⟨t, a, nn', h⟩ ej
          exact ⟨t, a, nn', ej _ _ nn' h⟩
        · intro i v x H' e' nD hv hx N Z kN
          have hi : i < us.length := (List.getElem?_eq_some_iff.mp hv).1
          obtain ⟨p, q, ux, b, ha, hb, hp, hq, hl, ht⟩ := t9 i hi
          rw [hv] at ha
          cases ha
          obtain ⟨t, at', ht⟩ := ht hi
          rw [numK_get hi] at hx
          cases hx
          refine ⟨rfl, ?_⟩
          show _
          refine ⟨_, rfl, _, _, _, _, rfl, rfl, sqT (e' _ _ hp), at0, _, rfl, _, _, _, _, rfl, rfl, sqI (e' _ _ hq), at', ?_⟩
          refine kN _ H' (Evl.Ex.refl _) ⟨t, rfl, fun z => ?_, e' _ _ ht⟩
          have h1 := e' _ _ ht
          rw [z] at ht
          rw [hD] at ht
          cases ht
        intro H10 ws e10 h10 a10
        refine ⟨_, rfl, _, _, rfl, .inl (sqI (e10 _ _ hA9)), _, rfl, by omega, by omega, fun D2 hD2 => lc_range (lo := 0) (n := ((us.length : Nat) : Int).toNat) (fun i H' => ∃ zs, Ex H10 H' ∧ H' D2 = some (.lst zs) ∧ AllR (fun v (x : Ky) => ∃ t, v = .ref t ∧ t ≠ D2 ∧ H' t = some (.tup [.int x.1, .int x.2])) zs (numK i) ∧ zs.length = i) ⟨[], Evl.Ex.new hD2, upd_same, AllR.nil, rfl⟩ ?_ ?_⟩
        · rintro i H' hi ⟨zs, x1', d1', a1', l1'⟩
          refine ⟨rfl, ?_⟩
          show _
          refine ⟨_, rfl, _, _, rfl, rfl, (by show 2 ≤ sizeLine; decide), fun t H11 nt e11 ht => ?_⟩
          have ntD : t ≠ D2 := (ne_of_none d1' nt).symm
          refine ⟨zs, e11 _ _ d1', Nat.lt_of_lt_of_le (show zs.length < 200 by omega) (by decide), zs ++ [.ref t], Evl.Ex.mut (x1'.trans e11) hD2, upd_same, ?_, by simp [l1']⟩
          rw [numK_succ]
          refine AllR.snoc (a1'.mono fun v x ⟨t', b, c, h⟩ => ⟨t', b, c, by rw [upd_ne c]; exact e11 _ _ h⟩) ⟨t, rfl, ntD, ?_⟩
          rw [upd_ne ntD, ht, Int.zero_add]
        rintro H11 ⟨zs, x11, d11, a11, l11⟩
        rw [show ((us.length : Nat) : Int).toNat = us.length by omega] at a11
        have b1 : Dp K H11 (.ref D) (eL eK (numK us.length)) := .lst (sqI (x11 _ _ h10)) (a10.dp fun v x ⟨t, a, _, h⟩ => a ▸ .tup (sqT (x11 _ _ h)) (.cons (.int _) (.cons (.int _) .nil)))
        have b2 : Dp K H11 (.ref D2) (eL eK (numK us.length)) := .lst (sqI d11) (a11.dp fun v x ⟨t, a, _, h⟩ => a ▸ .tup (sqT h) (.cons (.int _) (.cons (.int _) .nil)))
        refine neE (goodL goodK) (by decide) b1 b2 ⟨_, rfl, ifF same ?_⟩
        have e911 := e10.trans x11
        have hA11 := e911 _ _ hA9
        refine ⟨_, rfl, .inl ⟨rfl, _, sqI hA11⟩, _, _, _, rfl, rfl, hA11, Nat.lt_of_le_of_lt (show us.length ≤ 100 by omega) (by decide), ?_⟩
        have eM : Ex H6 (upd H11 A (.lst (us ++ [.non]))) := Evl.Ex.mut (e9.trans e911) nA
        generalize upd H11 A (.lst (us ++ [V.non])) = H12 at eM
        refine ⟨_, rfl, _, rfl, _, rfl, W, P, G, s, g, rfl, W1, W2, hP6.ex eM, hG6.ex eM, by omega, by omega, ks, kg, fun A3 H13 us3 qs3 nA3 e13 hA3 F13 _ ul3 => ?_⟩
        have dA3 : Dp K H13 (.ref A3) (eL eF (dueF W s g)) := .lst (sqI hA3) (F13.allR.dp fun v f r => r.dp)
        refine ⟨_, rfl, eqE (goodL goodF) (by decide) dA3 (dD (eM.trans e13)) ?_⟩
        rw [decide_eq_true rfl]
        have e4f := e46.trans (eM.trans e13)
        obtain ⟨y1, hy1⟩ := j1.at
        exact k H13 (x1.trans (x2.trans (x3.trans (x4.trans (Exj.of e4f))))) ((j4.ex e4f).mono (by omega))
end
end K10
set_option Elab.async false
set_option pp.maxSteps 1200
set_option linter.all false
set_option maxRecDepth 100000
set_option maxHeartbeats 4000000
namespace K10
open PySem L2 My
theorem min_map (d : Int) : ∀ (r : List Int) (x : Int), (r.map (· + d)).foldl min (x + d) = r.foldl min x + d
  | [], x => rfl
  | y :: r, x => by
    show (r.map (· + d)).foldl min (min (x + d) (y + d)) = r.foldl min (min x y) + d
    rw [show min (x + d) (y + d) = min x y + d by omega]
    exact min_map d r (min x y)
theorem run_sh (d : Int) (k : Ky) : runK (k.1 + d, k.2) = (runK k).map (· + d) := by
  unfold runK
  rw [List.map_replicate]
theorem runs_sh (d : Int) : ∀ ks : List Ky, (sh d ks).flatMap runK = (ks.flatMap runK).map (· + d)
  | [] => rfl
  | k :: r => by
    show runK (k.1 + d, k.2) ++ (sh d r).flatMap runK = _
    rw [runs_sh d r, run_sh, List.flatMap_cons, List.map_append]
theorem short_sh (d : Int) {ks : List Ky} {b : Bool} (one : ks.length = 1 → b = true) : shortL (sh d ks, b) = (shortL (ks, b)).map (· + d) := by
  unfold shortL
  rw [List.map_append]
  have er : runsL (sh d ks, b).1 = (runsL (ks, b).1).map (· + d) := by
    unfold runsL
    have : (sh d ks).reverse = sh d ks.reverse := by
      unfold sh
      rw [List.map_reverse]
    show (sh d ks).reverse.flatMap runK = _
    rw [this, runs_sh]
  rw [er]
  congr 1
  by_cases c : ks ≠ [] ∧ b = false
  · have c' : (sh d ks, b).1 ≠ [] ∧ (sh d ks, b).2 = false := ⟨fun z => c.1 (List.map_eq_nil_iff.mp z), c.2⟩
    rw [first_of c', first_of (f := (ks, b)) c]
    show [minI (cols (sh d ks).dropLast)] = [minI (cols ks.dropLast) + d]
    have e1 : cols (sh d ks).dropLast = (cols ks.dropLast).map (· + d) := by
      unfold cols sh
      rw [← List.map_dropLast, List.map_map, List.map_map]
      rfl
    rw [e1]
    have ne : cols ks.dropLast ≠ [] := fun z => by
      have z : ks.dropLast = [] := List.map_eq_nil_iff.mp z
      have h := congrArg List.length z
      rw [List.length_dropLast] at h
      have h0 := List.length_pos_iff.mpr c.1
      have := one (by have : ([] : List Ky).length = 0 := rfl; omega)
      rw [c.2] at this
      cases this
    match cols ks.dropLast, ne with
    | x :: r, _ =>
      show [(r.map (· + d)).foldl min (x + d)] = [r.foldl min x + d]
      rw [min_map]
  · have c' : ¬ ((sh d ks, b).1 ≠ [] ∧ (sh d ks, b).2 = false) := fun z => c ⟨fun y => z.1 (by show sh d ks = []; rw [y]; rfl), z.2⟩
    rw [first_no c', first_no (f := (ks, b)) c]
    rfl
def sp__law_great_right : Sp := fun vs H Q _ => ∃ (j : Addr) (n : Int), vs = [.ref j] ∧ Deck H j n ∧ n ≤ 10000 ∧ ∀ H', Exj j H H' → Deck H' j (n + 1000) → Q (.bl true) H'
section
variable {w : World} {K : PySem.W.Frag} {mg : Str → Option Value} {base : Heap}
theorem ok__law_great_right (T : Txt K mg) : FnOk PR w K mg base CX0 5 T.a__law_great_right T.d__law_great_right ["_law_deck"] sp__law_great_right := by
  refine T.f__law_great_right.ok sc__law_great_right (fun vs H Q E h => ?_) (fun cdv A0 outer s0 H vs Q E0 hr h => ?_)
  · obtain ⟨j, n, rfl, _⟩ := h
    rfl
  · obtain ⟨j, n, rfl, hj, hn, k⟩ := h
    refine ⟨_, (pss_cons (ps_set (i := 1) sc__law_great_right.nd rfl (by first | exact Or.inl rfl | exact Or.inr rfl) (pe_op op_add pe_int (pe_call (ok__law_draw T) (hr.mono (by decide)) (by rfl) T.g__law_draw T.f__law_draw.kp (b__law_draw T) .nil pass0 (pa_cons (pv 0) (pa_cons pe_int pa_nil))))) (pss_cons (ps_set (i := 2) sc__law_great_right.nd rfl (by first | exact Or.inl rfl | exact Or.inr rfl) (pe_call (ok__law_clicks T) (hr.mono (by decide)) (by rfl) T.g__law_clicks T.f__law_clicks.kp (b__law_clicks T) .nil pass0 (pa_cons (pv 0) (pa_cons (pv 1) (pa_cons pe_int pa_nil))))) (pss_cons (ps_set (i := 3) sc__law_great_right.nd rfl (by first | exact Or.inl rfl | exact Or.inr rfl) (pe_call (ok_form_of T) (hr.mono (by decide)) (by rfl) T.g_form_of T.f_form_of.kp (b_form_of T) .nil passL (pa_cons (pv 2) pa_nil))) (pss_cons (ps_if (pt_cmpR (op_neD hr.units) (pe_call (ok_clicks_for T) (hr.mono (by decide)) (by rfl) T.g_clicks_for T.f_clicks_for.kp (b_clicks_for T) .nil passL (pa_cons (pv 3) pa_nil)) (pe_call (ok__law_short T) (hr.mono (by decide)) (by rfl) T.g__law_short T.f__law_short.kp (b__law_short T) .nil pass0 (pa_cons (pv 3) pa_nil)) (nomark _)) (pss_one (ps_ret pe_bl)) pss_nil) (pss_cons (ps_set (i := 4) sc__law_great_right.nd rfl (by first | exact Or.inl rfl | exact Or.inr rfl) (pe_op op_add pe_int (pe_call (ok__law_draw T) (hr.mono (by decide)) (by rfl) T.g__law_draw T.f__law_draw.kp (b__law_draw T) .nil pass0 (pa_cons (pv 0) (pa_cons pe_int pa_nil))))) (pss_cons (ps_set (i := 5) sc__law_great_right.nd rfl (by first | exact Or.inl rfl | exact Or.inr rfl) (pe_tupG (pa_cons (pe_lc (own := [("_law_column", 8), ("_law_sign", 9)]) (g := (gTup K 2 (gCons (gName 8) (gCons (gName 9) gNil)))) (by rfl) sc__law_great_right.nd (pi_list (pe_ix ix_tup (pv 3) pe_int (fun _ _ => rfl))) (blkOk_by (own := [("_law_column", 8), ("_law_sign", 9)]) (N := ["_law_deck", "_law_width", "_law_clicks_here", "_law_form", "_law_far", "_law_moved", "_law_counts", "_law_made", "_law_column", "_law_sign"]) (sc := (defScope s__law_great_right)) (by decide +kernel)) (fun _ _ _ _ _ => (pg_tup rfl (pgs_cons (pg_name (i := 8) sc__law_great_right.nd rfl (by first | exact Or.inl rfl | exact Or.inr rfl)) (pgs_cons (pg_name (i := 9) sc__law_great_right.nd rfl (by first | exact Or.inl rfl | exact Or.inr rfl)) pgs_nil)))) (fun _ _ _ _ _ => pts_nil) (fun _ _ _ _ _ => (pe_tupG (pa_cons (pe_op op_add (pv 8) (pv 4)) (pa_cons (pv 9) pa_nil))))) (pa_cons (pe_ix ix_tup (pv 3) pe_int (fun _ _ => rfl)) pa_nil)))) (pss_cons (ps_if (pt_cmpR (op_neD hr.units) (pe_call (ok_clicks_for T) (hr.mono (by decide)) (by rfl) T.g_clicks_for T.f_clicks_for.kp (b_clicks_for T) .nil passL (pa_cons (pv 5) pa_nil)) (pe_lc (own := [("_law_column", 8)]) (g := gName 8) (by rfl) sc__law_great_right.nd (pi_list (pe_call (ok__law_short T) (hr.mono (by decide)) (by rfl) T.g__law_short T.f__law_short.kp (b__law_short T) .nil pass0 (pa_cons (pv 3) pa_nil))) (blkOk_by (own := [("_law_column", 8)]) (N := ["_law_deck", "_law_width", "_law_clicks_here", "_law_form", "_law_far", "_law_moved", "_law_counts", "_law_made", "_law_column", "_law_sign"]) (sc := (defScope s__law_great_right)) (by decide +kernel)) (fun _ _ _ _ _ => (pg_name (i := 8) sc__law_great_right.nd rfl (by first | exact Or.inl rfl | exact Or.inr rfl))) (fun _ _ _ _ _ => pts_nil) (fun _ _ _ _ _ => (pe_op op_add (pv 8) (pv 4)))) (nomark _)) (pss_one (ps_ret pe_bl)) pss_nil) (pss_cons (ps_set (i := 6) sc__law_great_right.nd rfl (by first | exact Or.inl rfl | exact Or.inr rfl) (pe_lstG (pa_cons pe_int (pa_cons pe_int (pa_cons pe_int (pa_cons pe_int (pa_cons pe_int (pa_cons pe_int pa_nil)))))))) (pss_cons (ps_set (i := 7) sc__law_great_right.nd rfl (by first | exact Or.inl rfl | exact Or.inr rfl) (pe_op op_mul (pe_ix ix_list (pv 6) (pe_op op_sub (pv 1) (pe_callB call_len_seq (by rfl) T.z_len PySem.boot_len (pa_cons (pe_ix ix_tup (pv 3) pe_int (fun _ _ => rfl)) pa_nil))) (fun _ _ => rfl)) (pe_ix ix_list (pe_lstG (pa_cons pe_int (pa_cons pe_int pa_nil))) (pe_callTy call_int1 (by rfl) T.z_int (by decide +kernel) (pa_cons (pe_ix ix_tup (pv 3) pe_int (fun _ _ => rfl)) pa_nil)) (fun _ _ => rfl)))) (pss_one (ps_ret (pe_and (pe_cmpR op_eq (pe_call (ok_number_made T) (hr.mono (by decide)) (by rfl) T.g_number_made T.f_number_made.kp (b_number_made T) .nil passL (pa_cons (pv 1) (pa_cons (pv 3) pa_nil))) (pv 7) (nomark _)) (pe_one (pe_cmpR op_eq (pe_call (ok_number_of_forms T) (hr.mono (by decide)) (by rfl) T.g_number_of_forms T.f_number_of_forms.kp (b_number_of_forms T) .nil passL (pa_cons pe_int pa_nil)) (pe_op op_add (pe_op op_add pe_int pe_int) (pe_op op_mul pe_int (pe_op op_add (pe_op op_add pe_int pe_int) pe_int))) (nomark _))))))))))))))), ?_⟩
    refine ⟨_, rfl, j, _, n, rfl, hj, by omega, by omega, by omega, fun d H1 d0 d1 x1 j1 => ?_⟩
    refine ⟨_, _, rfl, rfl, ?_⟩
    obtain ⟨W, hW⟩ : ∃ W : Nat, 3 + d = ((W : Nat) : Int) := ⟨(3 + d).toNat, by omega⟩
    have W1 : 3 ≤ W := by omega
    have W5 : W ≤ 5 := by omega
    refine st_eq (σ' := [some (.ref j), none, none, none, none, none, none, none, none, none]) (P := fun σ => gName 1 (V.int (3 + d)) σ H1 _) rfl ?_
    rw [hW]
    refine ⟨_, rfl, _, rfl, j, _, _, _, rfl, j1, by omega, by omega, by omega, by omega, by omega, fun A cs H2 nA nAj x2 j2 hA cl mc => ?_⟩
    have n0 := nn mc
    refine ⟨_, rfl, A, cs, rfl, sqI hA, by omega, n0, fun vf H3 e3 f3 => ?_⟩
    obtain ⟨g1, g2, g3, g4, g5⟩ := form_valid (mem_forms (w := W) mc)
    have gc : ∀ c ∈ cols (formL cs).1, 0 ≤ c ∧ c < (W : Int) := fun x hx => by
      rcases after_cols.mp hx with z | z
      · exact mc x z
      · cases z
    obtain ⟨pf, qf, rfl, hpf, ⟨uk, huk, hkk⟩⟩ := id f3
    refine st_eq (σ' := [some (.ref j), some (.int (W : Nat)), some (.ref A), some (.ref pf), none, none, none, none, none, none]) (P := fun σ => tSeq _ _ _ σ H3) rfl ?_
    refine ⟨_, rfl, _, formL cs, rfl, f3, by omega, g2, g5, fun p4 H4 n4 e4 h4 => ?_⟩
    refine ⟨_, rfl, _, formL cs, rfl, f3.ex e4, by omega, g5, g3.sg, fun p5 H5 n5 e5 h5 => ?_⟩
    refine neI_ (xs := shortL (formL cs)) (ys := shortL (formL cs)) (sqI (e5 _ _ h4)) (sqI h5) ⟨_, rfl, ifF same ?_⟩
    have e35 := e4.trans e5
    have j5 := (j2.ex e3).ex e35
    refine ⟨_, rfl, j, _, _, rfl, j5, by omega, by decide, by decide, fun d6 H6 d60 d61 x6 j6 => ?_⟩
    refine ⟨_, _, rfl, rfl, ?_⟩
    have nqj : qf ≠ j := LsK.nej (j2.ex e3) ⟨uk, huk, hkk⟩
    have npj : pf ≠ j := fun z => by
      obtain ⟨x, y, zz, h, _⟩ := j2.ex e3
      rw [z, h] at hpf
      cases hpf
    obtain ⟨y5, hy5⟩ := j5.at
    have hpf6 := x6 _ _ npj (e35 _ _ hpf)
    have huk6 := x6 _ _ nqj (e35 _ _ huk)
    have hkk6 : KsAt K H6 uk (formL cs).1 := (hkk.ex e35).exj x6 hy5
    have f6 : FmR K H6 (.ref pf) (formL cs) := ⟨pf, qf, rfl, hpf6, uk, huk6, hkk6⟩
    have ul : uk.length = (formL cs).1.length := hkk.1
    refine st_eq (σ' := [some (.ref j), some (.int (W : Nat)), some (.ref A), some (.ref pf), some (.int (1 + d6)), none, none, none, none, none]) (P := fun σ => tSeq _ _ _ σ H6) rfl ?_
    -- moved
    have sl : (sh (1 + d6) (formL cs).1).length = uk.length := by rw [ul]; simp [sh]
    refine ⟨_, rfl, _, _, _, _, rfl, rfl, sqT hpf6, at0, qf, rfl, ⟨_, sqI huk6⟩, fun D hD => lc_objL (K := K) (a := qf) (ys := sh (1 + d6) (formL cs).1) (R := fun H v (x : Ky) => ∃ t, v = .ref t ∧ t ≠ D ∧ H t = some (.tup [.int x.1, .int x.2])) (sqI huk6) hD sl (Nat.le_trans (show uk.length ≤ 200 by omega) (by decide)) ?_ ?_ ?_⟩
    · rintro H' H'' v x ⟨t, a, nn', h⟩ ej
      exact ⟨t, a, nn', ej _ _ nn' h⟩
    · intro i v x H' e' nD hv hx N Z kN
      obtain ⟨ky, hky, q', rfl, hq'⟩ := hkk6.get hv
      have hx' : x = (ky.1 + (1 + d6), ky.2) := by
        unfold sh at hx
        rw [List.getElem?_map, hky] at hx
        exact (Option.some.inj hx).symm
      subst hx'
      refine ⟨_, _, rfl, Evl.ex_t e' hq', rfl, _, _, rfl, _, _, rfl, rfl, rfl, ?_⟩
      show _
      refine ⟨_, rfl, _, rfl, _, _, rfl, rfl, _, rfl, (by show 2 ≤ sizeLine; decide), fun t H7 nt e7 ht => ?_⟩
      exact kN _ H7 e7 ⟨t, rfl, ne_some (Evl.Ex.refl _) nt nD, ht⟩
    intro H7 ms e7 h7 a7
    refine ⟨_, rfl, _, _, _, _, rfl, rfl, sqT (e7 _ _ hpf6), at1, (by show 2 ≤ sizeLine; decide), fun m8 H8 n8 e8 h8 => ?_⟩
    have e68 := e7.trans e8
    have f8 : FmR K H8 (.ref m8) (sh (1 + d6) (formL cs).1, (formL cs).2) := ⟨m8, D, rfl, h8, ms, e8 _ _ h7, a7.mono fun v x ⟨t, a, _, h⟩ => ⟨t, a, sqT (e8 _ _ h)⟩⟩
    have fsh := form_sh (1 + d6) cs
    have gm := hasForm_of (cs := cs.map (· + (1 + d6))) fun c hc => by
      obtain ⟨x, hx, rfl⟩ := List.mem_map.mp hc
      have := n0 x hx
      omega
    rw [fsh] at gm
    have slen : (sh (1 + d6) (formL cs).1).length = (formL cs).1.length := by simp [sh]
    refine st_eq (σ' := [some (.ref j), some (.int (W : Nat)), some (.ref A), some (.ref pf), some (.int (1 + d6)), some (.ref m8), none, none, none, none]) (P := fun σ => tSeq _ _ _ σ H8) rfl ?_
    refine ⟨_, rfl, .ref m8, (sh (1 + d6) (formL cs).1, (formL cs).2), rfl, f8, by show (sh _ _).length ≤ 200; omega, gm, fun z => g5 (by rw [← slen]; exact z), fun p9 H9 n9 e9 h9 => ?_⟩
    refine ⟨_, rfl, _, formL cs, rfl, f6.ex (e68.trans e9), by omega, g5, g3.sg, fun p10 H10 n10 e10 h10 => ?_⟩
    have sle := short_le (formL cs)
    refine ⟨p10, rfl, ⟨_, sqI h10⟩, fun D2 hD2 => lc_mapG (K := K) (a := p10) (ys := ((shortL (formL cs)).map (· + (1 + d6))).map V.int) (sqI h10) hD2 (by simp) (by rw [List.length_map]; exact Nat.le_trans (show _ ≤ 200 by omega) (by decide)) ?_ ?_⟩
    · intro i x y H' e' hx hy N Z kN
      obtain ⟨t, ht, rfl⟩ := mapI_get hx
      rw [List.getElem?_map, List.getElem?_map, ht] at hy
      cases hy
      refine ⟨rfl, ?_⟩
      show _
      exact ⟨_, rfl, _, rfl, _, _, rfl, rfl, kN H' (Evl.Ex.refl _)⟩
    intro H11 e11 h11
    have h9' := (e10.trans e11) _ _ h9
    rw [short_sh (1 + d6) g5] at h9'
    refine neI_ (xs := (shortL (formL cs)).map (· + (1 + d6))) (ys := (shortL (formL cs)).map (· + (1 + d6))) (sqI h9') (sqI h11) ⟨_, rfl, ifF same ?_⟩
    have e6b := e68.trans (e9.trans (e10.trans e11))
    refine ⟨(by show 6 ≤ sizeLine; decide), fun C H12 n12 e12 h12 => ?_⟩
    have e6c := e6b.trans e12
    refine st_eq (σ' := [some (.ref j), some (.int (W : Nat)), some (.ref A), some (.ref pf), some (.int (1 + d6)), some (.ref m8), some (.ref C), none, none, none]) (P := fun σ => tSeq _ _ _ σ H12) rfl ?_
    have so := sorts_fin (W - (formL cs).1.length) (by omega)
    have at12 : atI [V.int 1, .int 3, .int 13, .int 79, .int 633, .int 6331] (((W : Nat) : Int) - ((uk.length : Nat) : Int)) = some (.int (numSorts (W - (formL cs).1.length))) := by
      rw [so]
      obtain ⟨m, hm⟩ : ∃ m, m = W - (formL cs).1.length := ⟨_, rfl⟩
      rw [← hm]
      refine at_of (j := m) (by omega) ?_
      have m5 : m ≤ 5 := by omega
      match m, m5 with
      | 0, _ => rfl
      | 1, _ => rfl
      | 2, _ => rfl
      | 3, _ => rfl
      | 4, _ => rfl
      | 5, _ => rfl
    have hpf12 := e6c _ _ hpf6
    have huk12 := e6c _ _ huk6
    refine ⟨_, rfl, _, rfl, _, rfl, _, _, _, _, rfl, rfl, sqT hpf12, at0, _, _, rfl, .inl (sqI huk12), _, _, rfl, rfl, _, _, _, _, rfl, rfl, sqI h12, at12, (by show 2 ≤ sizeLine; decide), fun B H13 n13 e13 h13 => ?_⟩
    have at13 : atI [V.int 1, .int 2] (if (formL cs).2 = true then 1 else 0) = some (.int (if (formL cs).2 = true then 2 else 1)) := by
      cases (formL cs).2 <;> rfl
    refine ⟨_, rfl, _, _, _, _, rfl, rfl, sqT (e13 _ _ hpf12), at1, .inr ⟨_, rfl, ?_⟩⟩
    refine ⟨_, _, _, _, rfl, rfl, sqI h13, at13, _, _, rfl, rfl, .inr ⟨by split <;> omega, by split <;> omega⟩, ?_⟩
    have e6d := e6c.trans e13
    refine ⟨_, rfl, _, rfl, W, _, formL cs, rfl, f6.ex e6d, by omega, by omega, g1, g2, gc, fun H14 e14 => ?_⟩
    refine ⟨_, rfl, rfl, _, rfl, ?_⟩
    have eq : decide (V.int (numMade W (formL cs)) = V.int (numSorts (W - (formL cs).1.length) * (if (formL cs).2 = true then 2 else 1))) = true := decide_eq_true rfl
    refine ifT eq ?_
    refine ⟨4, rfl, by omega, by omega, fun H15 e15 => ?_⟩
    refine ⟨_, _, rfl, rfl, _, _, rfl, rfl, _, _, rfl, rfl, _, _, rfl, rfl, .inl ⟨by decide, by decide⟩, _, _, rfl, rfl, rfl, ?_⟩
    rw [forms_45.1]
    show Q (.bl (decide (V.int 1257 = V.int 1257))) H15
    rw [decide_eq_true rfl]
    have ef := e6d.trans (e14.trans e15)
    exact k H15 (x1.trans (x2.trans ((Exj.of (e3.trans e35)).trans (x6.trans (Exj.of ef))))) ((j6.ex ef).mono (by omega))
end
end K10
set_option Elab.async false
set_option pp.maxSteps 1200
set_option linter.all false
set_option maxRecDepth 100000
set_option maxHeartbeats 4000000
namespace K10
open PySem L2 My
theorem FmR.dj {K : PySem.W.Frag} {H H' : Hp} {j : Addr} {n : Int} {v : V} {f : Fm} (d : Deck H j n) (x : Exj j H H') : FmR K H v f → FmR K H' v f
  | ⟨p, q, a, b, c⟩ => by
    have nqj : q ≠ j := LsK.nej d c
    have npj : p ≠ j := fun z => by
      obtain ⟨x, y, zz, h, _⟩ := d
      rw [z, h] at b
      cases b
    obtain ⟨y, hy⟩ := d.at
    exact ⟨p, q, a, x _ _ npj b, c.exj x nqj hy⟩
theorem form_ne {cs : List Int} : (formL cs).2 = true → (formL cs).1 ≠ [] := fun h z => by
  rw [form_nil z] at h
  cases h
theorem shwI {c : Int} (h : -200 < c ∧ c < 200) : Shw (.int c) 0 1921 := Shw.int (log_of (Nat.lt_of_lt_of_le (show c.natAbs < 2 ^ 8 by omega) (Nat.pow_le_pow_right (by decide) (by decide))))
theorem shwK {k : Ky} (h : -200 < k.1 ∧ k.1 < 200) (h2 : -200 < k.2 ∧ k.2 < 200) : Shw (eK k) 1 3849 := by
  refine (Shw.tuple (n := 0) (M := 1921) (xs := [.int k.1, .int k.2]) fun x hx => ?_).mono (Nat.le_refl _) (by show 3 + 2 * (1921 + 2) ≤ 3849; decide)
  rcases List.mem_cons.mp hx with z | z
  · rw [z]; exact shwI h
  · rw [List.mem_singleton.mp z]; exact shwI h2
theorem shwF {f : Fm} (hl : f.1.length ≤ 5) (h : ∀ k ∈ f.1, (-200 < k.1 ∧ k.1 < 200) ∧ (-200 < k.2 ∧ k.2 < 200)) : Shw (eF f) 3 40000 := by
  have h1 : Shw (eL eK f.1) 2 19300 := by
    refine (Shw.list (n := 1) (M := 3849) (xs := f.1.map eK) fun x hx => ?_).mono (Nat.le_refl _) ?_
    · obtain ⟨k, hk, rfl⟩ := List.mem_map.mp hx
      exact shwK (h k hk).1 (h k hk).2
    · rw [List.length_map]
      have : f.1.length * (3849 + 2) ≤ 5 * (3849 + 2) := Nat.mul_le_mul_right _ hl
      omega
  refine (Shw.tuple (n := 2) (M := 19300) (xs := [eL eK f.1, .bool f.2]) fun x hx => ?_).mono (Nat.le_refl _) (by show 3 + 2 * (19300 + 2) ≤ 40000; decide)
  rcases List.mem_cons.mp hx with z | z
  · rw [z]; exact h1
  · rw [List.mem_singleton.mp z]; exact (Shw.bool _).mono (by omega) (by omega)
theorem form_small {W : Nat} (hW : W ≤ 5) {cs : List Int} (mc : Many W cs) : (formL cs).1.length ≤ 5 ∧ ∀ k ∈ (formL cs).1, (-200 < k.1 ∧ k.1 < 200) ∧ (-200 < k.2 ∧ k.2 < 200) := by
  obtain ⟨g1, g2, g3, g4, g5⟩ := form_valid (mem_forms (w := W) mc)
  refine ⟨by omega, fun k hk => ⟨?_, ?_⟩⟩
  · have hc : k.1 ∈ cols (afterL [] cs) := List.mem_map.mpr ⟨k, hk, rfl⟩
    rcases after_cols.mp hc with z | z
    · have := mc _ z
      omega
    · cases z
  · rcases g3.sg k hk with z | z <;> rw [z] <;> decide
theorem times_mem (cs : List Int) : ∀ (t : Nat) (c : Int), c ∈ timesL cs t → c ∈ cs
  | 0, c, h => by cases h
  | t + 1, c, h => by
    rw [times_succ] at h
    rcases List.mem_append.mp h with z | z
    · exact times_mem cs t c z
    · exact z
theorem times_map (cs : List Int) : ∀ t, (List.replicate t (cs.map V.int)).flatten = (timesL cs t).map V.int := fun t => by
  unfold timesL
  rw [List.map_flatten, List.map_replicate]
theorem times_len (cs : List Int) : ∀ t, (timesL cs t).length = t * cs.length
  | 0 => by simp [timesL]
  | t + 1 => by rw [times_succ, List.length_append, times_len cs t, Nat.succ_mul]
theorem rep_valid (cs : List Int) (t : Nat) (n0 : ∀ c ∈ cs, 0 ≤ c) (hl : (formL cs).1.length ≤ 5) : (repL (formL cs) t).1.length ≤ 200 ∧ hasForm (repL (formL cs) t) = true ∧ ((repL (formL cs) t).2 = true → (repL (formL cs) t).1 ≠ []) := by
  refine ⟨?_, ?_, ?_⟩
  · unfold repL
    split
    · exact Nat.zero_le _
    · split
      · show 1 ≤ 200
        omega
      · show (formL cs).1.length ≤ 200
        omega
  · rw [rep_form]
    exact hasForm_of fun c hc => n0 c (times_mem cs t c hc)
  · rw [rep_form]
    exact form_ne
theorem join_valid (cs ds : List Int) (n0 : ∀ c ∈ cs, 0 ≤ c) (m0 : ∀ c ∈ ds, 0 ≤ c) : hasForm (joinL (formL cs) (formL ds)) = true := by
  rw [join_form]
  exact hasForm_of fun c hc => (List.mem_append.mp hc).elim (n0 c) (m0 c)
/-- a form told, its keys a list made behind H0 and told on -/
def Grown (H0 : Hp) (D : Addr) (n : Nat) (H : Hp) (v : V) : Prop := ∃ p q u b, v = .ref p ∧ q ≠ D ∧ H p = some (.tup [.ref q, .bl b]) ∧ H q = some (.lst u) ∧ H0 q = none ∧ u.length ≤ n
theorem FmN.grown {K : PySem.W.Frag} {H0 H1 H : Hp} {v : V} {f : Fm} {n : Nat} {D : Addr} (h : FmN K H1 H v f) (e : Ex H0 H1) (nD : H D = none) (hl : f.1.length ≤ n) : Grown H0 D n H v := by
  obtain ⟨p, q, a, nn', b, u, hu, hk⟩ := h
  exact ⟨p, q, u, _, a, ne_of_none hu nD, b, hu, none_of e nn', by rw [hk.1]; exact hl⟩
theorem Grown.ex {H0 H H' : Hp} {D : Addr} {n : Nat} {v : V} (e : Ex H H') : Grown H0 D n H v → Grown H0 D n H' v
  | ⟨p, q, u, b, a, h0, h1, h2, h3, h4⟩ => ⟨p, q, u, b, a, h0, e _ _ h1, e _ _ h2, h3, h4⟩
def sp__law_times_right (K : PySem.W.Frag) : Sp := fun vs H Q _ => ∃ (j A : Addr) (n : Int) (v : V) (cs : List Int) (W : Nat), vs = [.ref j, .ref A, v] ∧ Deck H j n ∧ n ≤ 10000 ∧ H A = some (.lst (cs.map V.int)) ∧ A ≠ j ∧ cs.length ≤ 20 ∧ W ≤ 5 ∧ Many W cs ∧ FmR K H v (formL cs) ∧ ∀ H', Exj j H H' → Deck H' j (n + 1000) → Q (.bl true) H'
section
variable {w : World} {K : PySem.W.Frag} {mg : Str → Option Value} {base : Heap}
theorem ok__law_times_right (T : Txt K mg) : FnOkG PR w K mg base CX0 5 T.a__law_times_right T.d__law_times_right ["_law_deck", "_law_clicks_here", "_law_form"] (sp__law_times_right K) := by
  refine T.f__law_times_right.okG sc__law_times_right (fun vs H Q E h => ?_) (fun cdv A0 outer s0 H vs Q E0 hr gd h => ?_)
  · obtain ⟨j, A, n, v, cs, W, rfl, _⟩ := h
    rfl
  · obtain ⟨j, A, n, vf, cs, W, rfl, hj, hn, hA, nAj, cl, hW, mc, f0, k⟩ := h
    refine ⟨_, (pss_cons (ps_for PassesOwn.never rfl (pi_list (pe_lstG (pa_cons pe_int (pa_cons pe_int (pa_cons pe_int (pa_cons (pe_call (ok__law_draw T) (hr.mono (by decide)) (by rfl) T.g__law_draw T.f__law_draw.kp (b__law_draw T) .nil pass0 (pa_cons (pv 0) (pa_cons pe_int pa_nil))) pa_nil)))))) (pg_name (i := 3) sc__law_times_right.nd rfl (by first | exact Or.inl rfl | exact Or.inr rfl)) (pss_cons (ps_set (i := 4) sc__law_times_right.nd rfl (by first | exact Or.inl rfl | exact Or.inr rfl) (pe_call (ok_form_of T) (hr.mono (by decide)) (by rfl) T.g_form_of T.f_form_of.kp (b_form_of T) .nil passL (pa_cons (pe_op op_repG (pv 1) (pv 3)) pa_nil))) (pss_one (ps_if (PW.pt (pw_or (pt_cmpR (op_neD hr.units) (pe_call (ok_repeated T) (hr.mono (by decide)) (by rfl) T.g_repeated T.f_repeated.kp (b_repeated T) .nil passL (pa_cons (pv 2) (pa_cons (pv 3) pa_nil))) (pv 4) (nomark _)) (pw_or1 (pt_cmpR (op_neD hr.units) (pe_callK0 (ok_repeated T) (hr.mono (by decide)) (by rfl) T.g_repeated T.f_repeated.kp (kb_repeated_0_times_form T) passL (pk_cons (pv 3) (pk_cons (pv 2) pk_nil))) (pv 4) (nomark _))))) (pss_one (ps_ret pe_bl)) pss_nil)))) (pss_cons (ps_set (i := 5) sc__law_times_right.nd rfl (by first | exact Or.inl rfl | exact Or.inr rfl) (pe_callB (cr_reprA gd hr.units) (by rfl) T.z_repr (by decide +kernel) (pa_cons (pv 2) pa_nil))) (pss_cons (ps_for PassesOwn.never rfl (pi_list (pe_lstG (pa_cons (pe_call (ok_repeated T) (hr.mono (by decide)) (by rfl) T.g_repeated T.f_repeated.kp (b_repeated T) .nil passL (pa_cons (pv 2) (pa_cons pe_int pa_nil))) (pa_cons (pe_call (ok_repeated T) (hr.mono (by decide)) (by rfl) T.g_repeated T.f_repeated.kp (b_repeated T) .nil passL (pa_cons (pv 2) (pa_cons pe_int pa_nil))) (pa_cons (pe_call (ok_joined T) (hr.mono (by decide)) (by rfl) T.g_joined T.f_joined.kp (b_joined T) .nil passL (pa_cons (pv 2) (pa_cons (pe_call (ok_form_of T) (hr.mono (by decide)) (by rfl) T.g_form_of T.f_form_of.kp (b_form_of T) .nil passL (pa_cons (pe_lstG pa_nil) pa_nil)) pa_nil))) (pa_cons (pe_call (ok_joined T) (hr.mono (by decide)) (by rfl) T.g_joined T.f_joined.kp (b_joined T) .nil passL (pa_cons (pe_call (ok_form_of T) (hr.mono (by decide)) (by rfl) T.g_form_of T.f_form_of.kp (b_form_of T) .nil passL (pa_cons (pe_lstG pa_nil) pa_nil)) (pa_cons (pv 2) pa_nil))) pa_nil)))))) (pg_name (i := 6) sc__law_times_right.nd rfl (by first | exact Or.inl rfl | exact Or.inr rfl)) (pss_one (ps_expr (pe_bm PySem.F.plainAttrs_list PySem.F.slot_list_append PySem.F.type_list_append mt_append (pe_ix ix_tup (pv 6) pe_int (fun _ _ => rfl)) (pa_cons pe_non pa_nil))))) (pss_cons (ps_if (PW.pt (pw_or (pt_cmpR op_ne (pe_callB (cr_reprA gd hr.units) (by rfl) T.z_repr (by decide +kernel) (pa_cons (pv 2) pa_nil)) (pv 5) (nomark _)) (pw_or1 (pt_cmpR op_ne (pe_callB (cr_reprA gd hr.units) (by rfl) T.z_repr (by decide +kernel) (pa_cons (pe_call (ok_repeated T) (hr.mono (by decide)) (by rfl) T.g_repeated T.f_repeated.kp (b_repeated T) .nil passL (pa_cons (pv 2) (pa_cons pe_int pa_nil))) pa_nil)) (pv 5) (nomark _))))) (pss_one (ps_ret pe_bl)) pss_nil) (pss_cons (ps_set (i := 7) sc__law_times_right.nd rfl (by first | exact Or.inl rfl | exact Or.inr rfl) (pe_call (ok__law_large T) (hr.mono (by decide)) (by rfl) T.g__law_large T.f__law_large.kp (b__law_large T) .nil pass0 (pa_cons (pv 0) (pa_cons (pe_op op_fdivW (pe_op op_powW pe_int pe_int) pe_int) pa_nil)))) (pss_cons (ps_set (i := 8) sc__law_times_right.nd rfl (by first | exact Or.inl rfl | exact Or.inr rfl) (pe_call (ok__law_draw T) (hr.mono (by decide)) (by rfl) T.g__law_draw T.f__law_draw.kp (b__law_draw T) .nil pass0 (pa_cons (pv 0) (pa_cons pe_int pa_nil)))) (pss_cons (ps_set (i := 9) sc__law_times_right.nd rfl (by first | exact Or.inl rfl | exact Or.inr rfl) (pe_call (ok_joined T) (hr.mono (by decide)) (by rfl) T.g_joined T.f_joined.kp (b_joined T) .nil passL (pa_cons (pe_call (ok_repeated T) (hr.mono (by decide)) (by rfl) T.g_repeated T.f_repeated.kp (b_repeated T) .nil passL (pa_cons (pv 2) (pa_cons (pv 7) pa_nil))) (pa_cons (pe_call (ok_repeated T) (hr.mono (by decide)) (by rfl) T.g_repeated T.f_repeated.kp (b_repeated T) .nil passL (pa_cons (pv 2) (pa_cons (pv 7) pa_nil))) pa_nil)))) (pss_one (ps_ret (pe_cmpR (op_eqD hr.units) (pe_call (ok_repeated T) (hr.mono (by decide)) (by rfl) T.g_repeated T.f_repeated.kp (b_repeated T) .nil passL (pa_cons (pv 2) (pa_cons (pe_op op_add (pe_op op_mul pe_int (pv 7)) (pv 8)) pa_nil))) (pe_call (ok_joined T) (hr.mono (by decide)) (by rfl) T.g_joined T.f_joined.kp (b_joined T) .nil passL (pa_cons (pv 9) (pa_cons (pe_call (ok_repeated T) (hr.mono (by decide)) (by rfl) T.g_repeated T.f_repeated.kp (b_repeated T) .nil passL (pa_cons (pv 2) (pa_cons (pv 8) pa_nil))) pa_nil))) (nomark _))))))))))), ?_⟩
    have n0 := nn mc
    have hf := hasForm_of n0
    obtain ⟨s1, s2⟩ := form_small hW mc
    have sw : Shw (eF (formL cs)) 60 sizeLine := (shwF s1 s2).mono (by decide) (by decide)
    -- loop 1
    refine ⟨_, rfl, j, _, n, rfl, hj, by omega, by omega, by omega, fun d H1 d0 d1 x1 j1 => ?_⟩
    have hA1 := x1 _ _ nAj hA
    have f1 := f0.dj hj x1
    refine ⟨(by show 4 ≤ sizeLine; decide), fun p2 H2 n2 e2 h2 => ?_⟩
    have hA2 := e2 _ _ hA1
    have f2 := f1.ex e2
    have pick : ∀ {i : Nat} {x : V}, [V.int 0, V.int 1, V.int 2, V.int d][i]? = some x → ∃ t : Nat, x = .int (t : Nat) ∧ t ≤ 6 := fun {i x} hx => by
      match i, hx with
      | 0, hx => cases hx; exact ⟨0, rfl, by omega⟩
      | 1, hx => cases hx; exact ⟨1, rfl, by omega⟩
      | 2, hx => cases hx; exact ⟨2, rfl, by omega⟩
      | 3, hx => cases hx; exact ⟨d.toNat, by rw [show ((d.toNat : Nat) : Int) = d by omega], by omega⟩
    refine ⟨p2, rfl, ⟨_, sqI h2⟩, for_it (walk_list (K := K) (a := p2) (xs := [V.int 0, V.int 1, V.int 2, V.int d])) (fun i σ H' => ∃ (v3 v4 : Option V), σ = [some (.ref j), some (.ref A), some vf, v3, v4, none, none, none, none, none] ∧ Ex H2 H') ⟨_, _, rfl, Evl.Ex.refl _⟩ (fun i σ H' _ ⟨_, _, _, e⟩ => sqI (e _ _ h2)) ?_ ?_⟩
    · rintro i x σ HX H3 hi ⟨v3, v4, rfl, e3⟩ ⟨rfl, hx⟩
      obtain ⟨t, rfl, ht⟩ := pick hx
      have hA3 := e3 _ _ hA2
      have f3 := f2.ex e3
      refine ⟨_, rfl, _, rfl, _, _, _, rfl, rfl, hA3, by omega, by omega, ?_, fun p4 H4 n4 e4 h4 => ?_⟩
      · rw [List.length_map]
        have : cs.length * ((t : Nat) : Int).toNat ≤ 20 * 6 := Nat.mul_le_mul cl (by omega)
        exact Nat.le_trans this (by decide)
      rw [show ((t : Nat) : Int).toNat = t by omega, times_map] at h4
      have tl := times_len cs t
      have t120 : t * cs.length ≤ 6 * 20 := Nat.mul_le_mul ht cl
      refine ⟨p4, timesL cs t, rfl, sqI h4, by omega, fun c hc => n0 c (times_mem cs t c hc), fun vd H5 e5 f5 => ?_⟩
      have e35 := e4.trans e5
      rw [← rep_form] at f5
      refine ⟨_, rfl, _, rfl, vf, formL cs, t, rfl, f3.ex e35, by omega, hf, by omega, fun v6 H6 e6 f6 => ?_⟩
      refine ⟨_, rfl, neE goodF (by decide) f6.r.dp (f5.ex e6).dp ⟨_, rfl, ifF same ?_⟩⟩
      refine ⟨_, rfl, _, rfl, vf, formL cs, t, rfl, f3.ex (e35.trans e6), by omega, hf, by omega, fun v7 H7 e7 f7 => ?_⟩
      refine ⟨_, rfl, neE goodF (by decide) f7.r.dp (f5.ex (e6.trans e7)).dp ⟨_, rfl, ifF same ?_⟩⟩
      exact ⟨_, _, rfl, e3.trans (e35.trans (e6.trans e7))⟩
    · rintro σ H3 ⟨v3, v4, rfl, e3⟩
      have f3 := f2.ex e3
      refine ⟨_, rfl, vf, eF (formL cs), rfl, f3.dp, sw, ?_⟩
      refine st_eq (σ' := [some (.ref j), some (.ref A), some vf, v3, v4, some (.str (eF (formL cs)).shown), none, none, none, none]) (P := fun σ => tSeq _ _ _ σ H3) rfl ?_
      -- loop 2
      refine ⟨_, rfl, vf, formL cs, 1, rfl, f3, by omega, hf, by decide, fun w1 H4 e4 g1 => ?_⟩
      refine ⟨_, rfl, vf, formL cs, 0, rfl, f3.ex e4, by omega, hf, by decide, fun w2 H5 e5 g2 => ?_⟩
      refine ⟨_, rfl, (by show 0 ≤ sizeLine; decide), fun p6 H6 n6 e6 h6 => ?_⟩
      refine ⟨p6, [], rfl, sqI h6, by decide, fun c hc => (by cases hc), fun w7 H7 e7 g7 => ?_⟩
      have e47 := e5.trans (e6.trans e7)
      have e37 := e4.trans e47
      refine ⟨vf, w7, formL cs, formL [], rfl, f3.ex e37, g7, by omega, by decide, form_ne, hf, hasForm_of fun c hc => (by cases hc), fun w8 H8 e8 g8 => ?_⟩
      refine ⟨(by show 0 ≤ sizeLine; decide), fun p9 H9 n9 e9 h9 => ?_⟩
      refine ⟨p9, [], rfl, sqI h9, by decide, fun c hc => (by cases hc), fun w10 H10 e10 g10 => ?_⟩
      have e710 := e8.trans (e9.trans e10)
      refine ⟨_, rfl, w10, vf, formL [], formL cs, rfl, g10, f3.ex (e37.trans e710), by decide, by omega, form_ne, hasForm_of fun c hc => (by cases hc), hf, fun w11 H11 e11 g11 => ?_⟩
      refine ⟨(by show 4 ≤ sizeLine; decide), fun p12 H12 n12 e12 h12 => ?_⟩
      have jl : ∀ x y : List Int, (joinL (formL x) (formL y)).1.length ≤ x.length + y.length := fun x y => by
        rw [join_form]
        have := after_len (x ++ y) []
        rw [List.length_append] at this
        show (afterL [] (x ++ y)).length ≤ _
        have z : ([] : List Ky).length = 0 := rfl
        omega
      have e312 := e37.trans (e710.trans (e11.trans e12))
      have j8 := jl cs []
      have j11 := jl [] cs
      have r1 := (rep_valid cs 1 n0 s1).1
      have r0 := (rep_valid cs 0 n0 s1).1
      have z0 : ([] : List Int).length = 0 := rfl
      have gr : ∀ {i : Nat} {x : V}, [w1, w2, w8, w11][i]? = some x → Grown H3 p12 200 H12 x := fun {i x} hx => by
        match i, hx with
        | 0, hx => cases hx; exact (g1.grown (Evl.Ex.refl _) (none_of (e47.trans (e710.trans e11)) n12) r1).ex (e47.trans (e710.trans (e11.trans e12)))
        | 1, hx => cases hx; exact (g2.grown e4 (none_of ((e6.trans e7).trans (e710.trans e11)) n12) r0).ex ((e6.trans e7).trans (e710.trans (e11.trans e12)))
        | 2, hx => cases hx; exact (g8.grown e37 (none_of ((e9.trans e10).trans e11) n12) (by omega)).ex ((e9.trans e10).trans (e11.trans e12))
        | 3, hx => cases hx; exact (g11.grown (e37.trans e710) n12 (by omega)).ex e12
      refine ⟨p12, rfl, ⟨_, sqI h12⟩, for_it (walk_list (K := K) (a := p12) (xs := [w1, w2, w8, w11])) (fun i σ H' => ∃ (v6 : Option V), σ = [some (.ref j), some (.ref A), some vf, v3, v4, some (.str (eF (formL cs)).shown), v6, none, none, none] ∧ Ex H3 H' ∧ H' p12 = some (.lst [w1, w2, w8, w11]) ∧ ∀ (m : Nat) x, [w1, w2, w8, w11][m]? = some x → Grown H3 p12 (200 + i) H' x) ⟨_, rfl, e312, h12, fun m x hx => gr hx⟩ (fun i σ H' _ ⟨_, _, _, e, _⟩ => sqI e) ?_ ?_⟩
      · rintro i x σ HX H13 hi ⟨v6, rfl, e13, h13, gg⟩ ⟨rfl, hx⟩
        obtain ⟨p, q, u, b, rfl, nqD, hp, hq, nq, ul⟩ := gg i x hx
        have hi : i < 4 := hi
        refine ⟨_, rfl, _, _, _, _, rfl, rfl, sqT hp, at0, .inl ⟨rfl, _, sqI hq⟩, _, _, _, rfl, rfl, hq, Nat.lt_of_le_of_lt (show u.length ≤ 300 by omega) (by decide), ?_⟩
        have npq : p12 ≠ q := nqD.symm
        refine ⟨_, rfl, Evl.Ex.mut e13 nq, ?_, fun m y hy => ?_⟩
        · rw [upd_ne npq]
          exact h13
        · obtain ⟨p', q', u', b', rfl, nqD', hp', hq', nq', ul'⟩ := gg m y hy
          have hp'' : upd H13 q (.lst (u ++ [.non])) p' = some (.tup [.ref q', .bl b']) := by
            rw [upd_ne (fun z => by rw [z, hq] at hp'; cases hp')]
            exact hp'
          by_cases z : q' = q
          · subst z
            exact ⟨p', q', _, b', rfl, nqD', hp'', upd_same, nq', by rw [List.length_append]; show u.length + 1 ≤ _; omega⟩
          · exact ⟨p', q', u', b', rfl, nqD', hp'', by rw [upd_ne z]; exact hq', nq', by omega⟩
      · rintro σ H13 ⟨v6, rfl, e13, h13, gg⟩
        have f13 := f3.ex e13
        refine ⟨_, rfl, vf, eF (formL cs), rfl, f13.dp, sw, _, rfl, rfl, _, rfl, ifF (nef rfl) ?_⟩
        refine ⟨_, rfl, vf, formL cs, 1, rfl, f13, by omega, hf, by decide, fun v14 H14 e14 g14 => ?_⟩
        have r1e : repL (formL cs) 1 = formL cs := by
          rw [rep_form]
          simp [timesL]
        rw [r1e] at g14
        refine ⟨v14, eF (formL cs), rfl, g14.r.dp, sw, _, rfl, rfl, _, rfl, ifF (nef rfl) ?_⟩
        have e314 := e13.trans e14
        have j14 : Deck H14 j (n + 1) := j1.ex ((e2.trans e3).trans e314)
        have f14 := f3.ex e314
        -- great numbers
        refine ⟨_, rfl, _, _, rfl, rfl, (show CPowW 10 60 by constructor <;> decide +kernel), _, _, rfl, rfl, wide_div (b := 20) (by decide) (by decide) (by decide) (by decide), j, _, _, rfl, j14, by omega, by decide +kernel, fun h H15 hb x15 j15 => ?_⟩
        have f15 := f14.dj j14 x15
        refine ⟨_, rfl, j, _, _, rfl, j15, by omega, by decide, by decide, fun d16 H16 d160 d161 x16 j16 => ?_⟩
        have f16 := f15.dj j15 x16
        obtain ⟨o, ho⟩ : ∃ o : Nat, d16 = ((o : Nat) : Int) := ⟨d16.toNat, by omega⟩
        subst ho
        have hb2 : ((h : Nat) : Int) < 2 ^ 250 := Int.lt_trans hb (by decide +kernel)
        refine st_eq (σ' := [some (.ref j), some (.ref A), some vf, v3, v4, some (.str (eF (formL cs)).shown), v6, some (.int (h : Nat)), some (.int (o : Nat)), none]) (P := fun σ => tSeq _ _ _ σ H16) rfl ?_
        have rv := rep_valid cs h n0 s1
        have ro := rep_valid cs o n0 s1
        refine ⟨_, rfl, _, rfl, vf, formL cs, h, rfl, f16, by omega, hf, by omega, fun v17 H17 e17 g17 => ?_⟩
        refine ⟨_, rfl, _, rfl, vf, formL cs, h, rfl, f16.ex e17, by omega, hf, by omega, fun v18 H18 e18 g18 => ?_⟩
        refine ⟨v17, v18, repL (formL cs) h, repL (formL cs) h, rfl, g17.r.ex e18, g18.r, rv.1, rv.1, rv.2.2, rv.2.1, rv.2.1, fun v19 H19 e19 g19 => ?_⟩
        have e16 := e17.trans (e18.trans e19)
        have e2h : (2 : Int) * ((h : Nat) : Int) + ((o : Nat) : Int) = ((2 * h + o : Nat) : Int) := by omega
        refine ⟨_, rfl, _, rfl, _, _, rfl, rfl, .inl ⟨by decide, by decide⟩, _, rfl, _, _, rfl, rfl, vf, formL cs, 2 * h + o, ?_, f16.ex e16, by omega, hf, by omega, fun v20 H20 e20 g20 => ?_⟩
        · show [vf, V.int ((2 : Int) * ((h : Nat) : Int) + ((o : Nat) : Int))] = _
          rw [e2h]
        refine ⟨_, rfl, _, rfl, _, rfl, vf, formL cs, o, rfl, f16.ex (e16.trans e20), by omega, hf, by omega, fun v21 H21 e21 g21 => ?_⟩
        have jv : hasForm (joinL (repL (formL cs) h) (repL (formL cs) h)) = true := by
          rw [rep_form]
          exact join_valid _ _ (fun c hc => n0 c (times_mem cs h c hc)) (fun c hc => n0 c (times_mem cs h c hc))
        have jl2 : (joinL (repL (formL cs) h) (repL (formL cs) h)).1.length ≤ 200 := by
          rw [rep_form, join_form, ← times_add, ← rep_form]
          exact (rep_valid cs (h + h) n0 s1).1
        refine ⟨v19, v21, joinL (repL (formL cs) h) (repL (formL cs) h), repL (formL cs) o, rfl, g19.r.ex (e20.trans e21), g21.r, jl2, ro.1, ro.2.2, jv, ro.2.1, fun v22 H22 e22 g22 => ?_⟩
        rw [← great_form] at g22
        refine eqE goodF (by decide) (g20.r.ex (e21.trans e22)).dp g22.r.dp ?_
        rw [decide_eq_true rfl]
        have ef := e16.trans (e20.trans (e21.trans e22))
        exact k H22 (x1.trans ((Exj.of (e2.trans (e3.trans e314))).trans (x15.trans (x16.trans (Exj.of ef))))) ((j16.ex ef).mono (by omega))
end
end K10
set_option Elab.async false
set_option pp.maxSteps 1200
set_option linter.all false
set_option maxRecDepth 100000
set_option maxHeartbeats 4000000
namespace K10
open PySem L2 My
def optE {α : Type} (e : α → PyData) : Option α → PyData
  | none => .none
  | some x => e x
theorem goodOpt {α : Type} [DecidableEq α] {e : α → PyData} {n : Nat} (g : Good e n) (h : ∀ x, PyData.eqv .none (e x) = false ∧ PyData.eqv (e x) .none = false) : Good (optE e) n := ⟨fun x => by
    cases x with
    | none => rfl
    | some x => exact g.lay x, fun x => by
    cases x with
    | none => exact Nat.zero_le _
    | some x => exact g.dep x, fun x y => by
    cases x with
    | none =>
      cases y with
      | none => rfl
      | some y => exact ((h y).1).trans (by simp)
    | some x =>
      cases y with
      | none => exact ((h x).2).trans (by simp)
      | some y =>
        show PyData.eqv (e x) (e y) = _
        rw [g.eqv, Bool.eq_iff_iff]
        simp⟩
theorem goodON : Good (eL (optE eK)) 2 := goodL (goodOpt goodK fun x => ⟨rfl, rfl⟩)
abbrev eFO : List (Option Ky) × Bool → PyData := eP (eL (optE eK)) PyData.bool
theorem goodFO : Good eFO 3 := goodP goodON (goodUp goodB (by decide))
theorem goodIO : Good (eL (optE PyData.int)) 1 := goodL (goodOpt goodI fun x => ⟨rfl, rfl⟩)
theorem KsAt.dpO {K : PySem.W.Frag} {H : Hp} {us : List V} {ks : List Ky} (h : KsAt K H us ks) : DpAll K H us ((ks.map some).map (optE eK)) := by
  have e : (ks.map some).map (optE eK) = ks.map eK := by
    rw [List.map_map]
    rfl
  rw [e]
  exact AllR.dp h fun v x r => r.dp
theorem intsO {K : PySem.W.Frag} {H : Hp} (cs : List Int) : DpAll K H (cs.map V.int) ((cs.map some).map (optE PyData.int)) := by
  have e : (cs.map some).map (optE PyData.int) = cs.map PyData.int := by
    rw [List.map_map]
    rfl
  rw [e]
  exact dpI cs
theorem grow_ne {α : Type} (ks : List α) : ¬ (ks.map some = ks.map some ++ [none]) := fun z => by
  have := congrArg List.length z
  rw [List.length_append] at this
  simp at this
theorem short_nn : ∀ f ∈ formsL 3, ∀ c ∈ shortL f, 0 ≤ c := by decide +kernel
theorem shwTwoF {f g : Fm} (hf : f.1.length ≤ 5) (hg : g.1.length ≤ 5) (kf : ∀ k ∈ f.1, (-200 < k.1 ∧ k.1 < 200) ∧ (-200 < k.2 ∧ k.2 < 200)) (kg : ∀ k ∈ g.1, (-200 < k.1 ∧ k.1 < 200) ∧ (-200 < k.2 ∧ k.2 < 200)) : Shw (eL eF [f, g]) 60 sizeLine := by
  refine (Shw.list (n := 3) (M := 40000) fun x hx => ?_).mono (by decide) (by show 2 + 2 * (40000 + 2) ≤ sizeLine; decide)
  rcases List.mem_cons.mp hx with z | z
  · rw [z]; exact shwF hf kf
  · rw [List.mem_singleton.mp z]; exact shwF hg kg
theorem dpTwo {K : PySem.W.Frag} {H : Hp} {p : Addr} {v u : V} {f g : Fm} (h : H p = some (.lst [v, u])) (a : FmR K H v f) (b : FmR K H u g) : Dp K H (.ref p) (eL eF [f, g]) := .lst (sqI h) (.cons a.dp (.cons b.dp .nil))
def sp__law_right : Sp := fun vs H Q _ => ∃ (j : Addr), vs = [.ref j] ∧ Deck H j 0 ∧ ∀ H', Exj j H H' → Q (.bl true) H'
def sp_law (K : PySem.W.Frag) : Sp := fun vs H Q _ => ∃ (a : Addr) (ns : List Int), vs = [.ref a] ∧ SqL K H a (ns.map V.int) ∧ ns.length ≤ 63 ∧ ∀ H', Q (.bl true) H'
section
variable {w : World} {K : PySem.W.Frag} {mg : Str → Option Value} {base : Heap}
theorem ok__law_right (T : Txt K mg) : FnOkG PR w K mg base CX0 6 T.a__law_right T.d__law_right ["_law_deck"] sp__law_right := by
  refine T.f__law_right.okG sc__law_right (fun vs H Q E h => ?_) (fun cdv A0 outer s0 H vs Q E0 hr gd h => ?_)
  · obtain ⟨j, rfl, _⟩ := h
    rfl
  · obtain ⟨j, rfl, hj, k⟩ := h
    refine ⟨_, (pss_cons (ps_set (i := 1) sc__law_right.nd rfl (by first | exact Or.inl rfl | exact Or.inr rfl) (pe_op op_add pe_int (pe_call (ok__law_draw T) (hr.mono (by decide)) (by rfl) T.g__law_draw T.f__law_draw.kp (b__law_draw T) .nil pass0 (pa_cons (pv 0) (pa_cons pe_int pa_nil))))) (pss_cons (ps_par (by rfl) sc__law_right.nd rfl rfl (by decide) rfl rfl (i := 2) (j := 3) (pa_cons (pe_call (ok__law_clicks T) (hr.mono (by decide)) (by rfl) T.g__law_clicks T.f__law_clicks.kp (b__law_clicks T) .nil pass0 (pa_cons (pv 0) (pa_cons (pv 1) (pa_cons pe_int pa_nil)))) (pa_cons (pe_call (ok__law_clicks T) (hr.mono (by decide)) (by rfl) T.g__law_clicks T.f__law_clicks.kp (b__law_clicks T) .nil pass0 (pa_cons (pv 0) (pa_cons (pv 1) (pa_cons pe_int pa_nil)))) pa_nil)) (by rfl)) (pss_cons (ps_par (by rfl) sc__law_right.nd rfl rfl (by decide) rfl rfl (i := 4) (j := 5) (pa_cons (pe_call (ok_form_of T) (hr.mono (by decide)) (by rfl) T.g_form_of T.f_form_of.kp (b_form_of T) .nil passL (pa_cons (pv 2) pa_nil)) (pa_cons (pe_call (ok_form_of T) (hr.mono (by decide)) (by rfl) T.g_form_of T.f_form_of.kp (b_form_of T) .nil passL (pa_cons (pv 3) pa_nil)) pa_nil)) (by rfl)) (pss_cons (ps_set (i := 6) sc__law_right.nd rfl (by first | exact Or.inl rfl | exact Or.inr rfl) (pe_callB (cr_reprA gd hr.units) (by rfl) T.z_repr (by decide +kernel) (pa_cons (pe_lstG (pa_cons (pv 4) (pa_cons (pv 5) pa_nil))) pa_nil))) (pss_cons (ps_set (i := 7) sc__law_right.nd rfl (by first | exact Or.inl rfl | exact Or.inr rfl) (pe_call (ok_joined T) (hr.mono (by decide)) (by rfl) T.g_joined T.f_joined.kp (b_joined T) .nil passL (pa_cons (pv 4) (pa_cons (pv 5) pa_nil)))) (pss_cons (ps_if (PW.pt (pw_or (pt_cmpR (op_neD hr.units) (pv 7) (pe_call (ok_form_of T) (hr.mono (by decide)) (by rfl) T.g_form_of T.f_form_of.kp (b_form_of T) .nil passL (pa_cons (pe_op op_catG (pv 2) (pv 3)) pa_nil)) (nomark _)) (pw_or1 (pt_cmpR (op_neD hr.units) (pe_callK0 (ok_joined T) (hr.mono (by decide)) (by rfl) T.g_joined T.f_joined.kp (kb_joined_0_other_one T) passL (pk_cons (pv 4) (pk_cons (pv 5) pk_nil))) (pe_call (ok_form_of T) (hr.mono (by decide)) (by rfl) T.g_form_of T.f_form_of.kp (b_form_of T) .nil passL (pa_cons (pe_op op_catG (pv 3) (pv 2)) pa_nil)) (nomark _))))) (pss_one (ps_ret pe_bl)) pss_nil) (pss_cons (ps_expr (pe_bm PySem.F.plainAttrs_list PySem.F.slot_list_append PySem.F.type_list_append mt_append (pe_ix ix_tup (pv 7) pe_int (fun _ _ => rfl)) (pa_cons pe_non pa_nil))) (pss_cons (ps_if (PW.pt (pw_or (pt_cmpR (op_eqD hr.units) (pe_call (ok_joined T) (hr.mono (by decide)) (by rfl) T.g_joined T.f_joined.kp (b_joined T) .nil passL (pa_cons (pv 4) (pa_cons (pv 5) pa_nil))) (pv 7) (nomark _)) (pw_or1 (pt_not (pt_val (pe_callG (ok__law_times_right T) (hr.mono (by decide)) gd (by rfl) T.g__law_times_right T.f__law_times_right.kp (b__law_times_right T) .nil pass0 (pa_cons (pv 0) (pa_cons (pv 2) (pa_cons (pv 4) pa_nil))))))))) (pss_one (ps_ret pe_bl)) pss_nil) (pss_cons (ps_set (i := 8) sc__law_right.nd rfl (by first | exact Or.inl rfl | exact Or.inr rfl) (pe_call (ok_clicks_for T) (hr.mono (by decide)) (by rfl) T.g_clicks_for T.f_clicks_for.kp (b_clicks_for T) .nil passL (pa_cons (pv 4) pa_nil))) (pss_cons (ps_if (PW.pt (pw_or (pt_cmpR (op_neD hr.units) (pe_call (ok_form_of T) (hr.mono (by decide)) (by rfl) T.g_form_of T.f_form_of.kp (b_form_of T) .nil passL (pa_cons (pv 8) pa_nil)) (pv 4) (nomark _)) (pw_or (pt_cmpR (op_neD hr.units) (pe_callK0 (ok_clicks_for T) (hr.mono (by decide)) (by rfl) T.g_clicks_for T.f_clicks_for.kp (kb_clicks_for_0_form T) passL (pk_cons (pv 4) pk_nil)) (pv 8) (nomark _)) (pw_or1 (pt_cmpR op_gt (pe_callB call_len_seq (by rfl) T.z_len PySem.boot_len (pa_cons (pv 8) pa_nil)) (pe_callB (call_max2 rfl) (by rfl) T.z_max (by decide +kernel) (pa_cons (pe_callB call_len_seq (by rfl) T.z_len PySem.boot_len (pa_cons (pv 2) pa_nil)) (pa_cons pe_int pa_nil))) (nomark _)))))) (pss_one (ps_ret pe_bl)) pss_nil) (pss_cons (ps_if (pt_cut (PW.pt (pw_and (pt_cmpR op_lt (pv 1) pe_int (nomark _)) (pw_and1 (pt_cmpR (op_neD hr.units) (pv 8) (pe_call (ok__law_first T) (hr.mono (by decide)) (by rfl) T.g__law_first T.f__law_first.kp (b__law_first T) .nil pass0 (pa_cons (pv 1) (pa_cons (pv 4) pa_nil))) (nomark _)))))) (pss_one (ps_ret pe_bl)) pss_nil) (pss_cons (ps_expr (pe_bm PySem.F.plainAttrs_list PySem.F.slot_list_append PySem.F.type_list_append mt_append (pv 8) (pa_cons pe_non pa_nil))) (pss_cons (ps_if (PW.pt (pw_or (pt_cmpR (op_eqD hr.units) (pe_call (ok_clicks_for T) (hr.mono (by decide)) (by rfl) T.g_clicks_for T.f_clicks_for.kp (b_clicks_for T) .nil passL (pa_cons (pv 4) pa_nil)) (pv 8) (nomark _)) (pw_or1 (pt_cmpR op_ne (pe_callB (cr_reprA gd hr.units) (by rfl) T.z_repr (by decide +kernel) (pa_cons (pe_lstG (pa_cons (pv 4) (pa_cons (pv 5) pa_nil))) pa_nil)) (pv 6) (nomark _))))) (pss_one (ps_ret pe_bl)) pss_nil) (pss_one (ps_ret (pe_and (pe_call (ok__law_counts_right T) (hr.mono (by decide)) (by rfl) T.g__law_counts_right T.f__law_counts_right.kp (b__law_counts_right T) .nil pass0 (pa_cons (pv 0) pa_nil)) (pe_and (pe_call (ok__law_between_right T) (hr.mono (by decide)) (by rfl) T.g__law_between_right T.f__law_between_right.kp (b__law_between_right T) .nil pass0 (pa_cons (pv 0) pa_nil)) (pe_one (pe_call (ok__law_great_right T) (hr.mono (by decide)) (by rfl) T.g__law_great_right T.f__law_great_right.kp (b__law_great_right T) .nil pass0 (pa_cons (pv 0) pa_nil)))))))))))))))))))), ?_⟩
    refine ⟨_, rfl, j, _, _, rfl, hj, by omega, by omega, by omega, fun d H1 d0 d1 x1 j1 => ?_⟩
    refine ⟨_, _, rfl, rfl, ?_⟩
    obtain ⟨W, hW⟩ : ∃ W : Nat, 1 + d = ((W : Nat) : Int) := ⟨(1 + d).toNat, by omega⟩
    have W1 : 1 ≤ W := by omega
    have W3 : W ≤ 3 := by omega
    refine st_eq (σ' := [some (.ref j), none, none, none, none, none, none, none, none]) (P := fun σ => gName 1 (V.int (1 + d)) σ H1 _) rfl ?_
    rw [hW]
    refine ⟨_, rfl, _, rfl, j, _, _, _, rfl, j1, by omega, by omega, by omega, by omega, by omega, fun A cs H2 nA nAj x2 j2 hA cl mc => ?_⟩
    refine ⟨_, rfl, _, rfl, j, _, _, _, rfl, j2, by omega, by omega, by omega, by omega, by omega, fun B ds H3 nB nBj x3 j3 hB dl md => ?_⟩
    refine ⟨_, _, rfl, ?_⟩
    have hA3 := x3 _ _ nAj hA
    have n0 := nn mc
    have m0 := nn md
    have hf := hasForm_of n0
    have hg := hasForm_of m0
    obtain ⟨s1, s2⟩ := form_small (by omega) mc
    obtain ⟨t1, t2⟩ := form_small (by omega) md
    have one := one_alone (cs := cs)
    have mc3 : ∀ c ∈ cs, 0 ≤ c ∧ c < (3 : Int) := fun c hc => by have := mc c hc; omega
    have inF := mem_forms (w := 3) mc3
    have sf := short_form mc3
    have sl := short_len _ cs rfl mc3
    have snn := short_nn _ inF
    have jn1 := join_form cs ds
    have jn2 := join_form ds cs
    have ff : W ≤ 2 → firstF W (formL cs) = some (shortL (formL cs)) := fun h => first_form W1 h mc
    refine st_eq (σ' := [some (.ref j), some (.int (W : Nat)), some (.ref A), some (.ref B), none, none, none, none, none]) (P := fun σ => tSeq _ _ _ σ H3) rfl ?_
    refine ⟨_, rfl, A, cs, rfl, sqI hA3, by omega, n0, fun vf H4 e4 f4 => ?_⟩
    refine ⟨_, rfl, B, ds, rfl, sqI (e4 _ _ hB), by omega, m0, fun vl H5 e5 l5 => ?_⟩
    refine ⟨_, _, rfl, ?_⟩
    have f5 := f4.ex e5
    have e35 := e4.trans e5
    refine st_eq (σ' := [some (.ref j), some (.int (W : Nat)), some (.ref A), some (.ref B), some vf, some vl, none, none, none]) (P := fun σ => tSeq _ _ _ σ H5) rfl ?_
    refine ⟨_, rfl, _, rfl, (by show 2 ≤ sizeLine; decide), fun p6 H6 n6 e6 h6 => ?_⟩
    have f6 := f5.ex e6
    have l6 := l5.ex e6
    refine ⟨.ref p6, eL eF [formL cs, formL ds], rfl, dpTwo h6 f6 l6, shwTwoF s1 t1 s2 t2, ?_⟩
    refine st_eq (σ' := [some (.ref j), some (.int (W : Nat)), some (.ref A), some (.ref B), some vf, some vl, some (.str (eL eF [formL cs, formL ds]).shown), none, none]) (P := fun σ => tSeq _ _ _ σ H6) rfl ?_
    -- joined
    refine ⟨_, rfl, _, rfl, vf, vl, formL cs, formL ds, rfl, f6, l6, by omega, by omega, form_ne, hf, hg, fun vb H7 e7 b7 => ?_⟩
    have hA7 := (e35.trans (e6.trans e7)) _ _ hA3
    have hB7 := (e35.trans (e6.trans e7)) _ _ hB
    refine ⟨_, rfl, _, rfl, _, rfl, _, _, _, _, rfl, rfl, hA7, hB7, ?_, fun p8 H8 n8 e8 h8 => ?_⟩
    · rw [List.length_map, List.length_map]
      exact Nat.le_trans (show _ ≤ 100 by omega) (by decide)
    rw [← List.map_append] at h8
    have nj : ∀ c ∈ cs ++ ds, 0 ≤ c := fun c hc => (List.mem_append.mp hc).elim (n0 c) (m0 c)
    have nj2 : ∀ c ∈ ds ++ cs, 0 ≤ c := fun c hc => (List.mem_append.mp hc).elim (m0 c) (n0 c)
    refine ⟨p8, cs ++ ds, rfl, sqI h8, by rw [List.length_append]; omega, nj, fun v9 H9 e9 f9 => ?_⟩
    rw [← jn1] at f9
    refine neE goodF (by decide) (b7.r.ex (e8.trans e9)).dp f9.dp ⟨_, rfl, ifF same ?_⟩
    have e79 := e8.trans e9
    have e69 := e7.trans e79
    refine ⟨_, rfl, _, rfl, vl, vf, formL ds, formL cs, rfl, l6.ex e69, f6.ex e69, by omega, by omega, form_ne, hg, hf, fun v10 H10 e10 b10 => ?_⟩
    refine ⟨_, rfl, _, rfl, _, _, _, _, rfl, rfl, (e79.trans e10) _ _ hB7, (e79.trans e10) _ _ hA7, ?_, fun p11 H11 n11 e11 h11 => ?_⟩
    · rw [List.length_map, List.length_map]
      exact Nat.le_trans (show _ ≤ 100 by omega) (by decide)
    rw [← List.map_append] at h11
    refine ⟨p11, ds ++ cs, rfl, sqI h11, by rw [List.length_append]; omega, nj2, fun v12 H12 e12 f12 => ?_⟩
    rw [← jn2] at f12
    refine neE goodF (by decide) (b10.r.ex (e11.trans e12)).dp f12.dp ⟨_, rfl, ifF same ?_⟩
    have e712 := e79.trans (e10.trans (e11.trans e12))
    -- told on
    obtain ⟨pb, qb, rfl, nqb, hpb, ⟨ub, hub, hkb⟩⟩ := id b7
    have hpb12 := e712 _ _ hpb
    have hub12 := e712 _ _ hub
    have jle : (joinL (formL cs) (formL ds)).1.length ≤ 100 := by
      rw [jn1]
      have := after_len (cs ++ ds) []
      rw [List.length_append] at this
      show (afterL [] (cs ++ ds)).length ≤ _
      have z : ([] : List Ky).length = 0 := rfl
      omega
    have ubl := hkb.1
    refine ⟨_, rfl, _, _, _, _, rfl, rfl, sqT hpb12, at0, .inl ⟨rfl, _, sqI hub12⟩, _, _, _, rfl, rfl, hub12, Nat.lt_of_le_of_lt (show ub.length ≤ 100 by omega) (by decide), ?_⟩
    have eM : Ex H6 (upd H12 qb (.lst (ub ++ [.non]))) := Evl.Ex.mut (e7.trans e712) nqb
    have hq13 : upd H12 qb (.lst (ub ++ [.non])) qb = some (.lst (ub ++ [.non])) := upd_same
    have hp13 : upd H12 qb (.lst (ub ++ [.non])) pb = some (.tup [.ref qb, .bl (joinL (formL cs) (formL ds)).2]) := by
      rw [upd_ne (fun z => by rw [z, hub12] at hpb12; cases hpb12)]
      exact hpb12
    have hk13 : KsAt K (upd H12 qb (.lst (ub ++ [.non]))) ub (joinL (formL cs) (formL ds)).1 := (hkb.ex e712).exj ((Exj.refl qb H12).upd) hub12
    generalize upd H12 qb (.lst (ub ++ [V.non])) = H13 at eM hq13 hp13 hk13
    refine st_eq (σ' := [some (.ref j), some (.int (W : Nat)), some (.ref A), some (.ref B), some vf, some vl, some (.str (eL eF [formL cs, formL ds]).shown), some (.ref pb), none]) (P := fun σ => tSeq _ _ _ σ H13) rfl ?_
    refine ⟨_, rfl, _, rfl, vf, vl, formL cs, formL ds, rfl, f6.ex eM, l6.ex eM, by omega, by omega, form_ne, hf, hg, fun v14 H14 e14 b14 => ?_⟩
    generalize joinL (formL cs) (formL ds) = J at b14 hp13 hk13
    obtain ⟨p14, q14, rfl, _, hp14, ⟨u14, hu14, hk14⟩⟩ := b14
    have dd1 : Dp K H14 (.ref p14) (eFO (J.1.map some, J.2)) := .tup (sqT hp14) (.cons (.lst (sqI hu14) hk14.dpO) (.cons (.bl _) .nil))
    have dd2 : Dp K H14 (.ref pb) (eFO (J.1.map some ++ [none], J.2)) := .tup (sqT (e14 _ _ hp13)) (.cons (by
      unfold eL
      rw [List.map_append]
      exact .lst (sqI (e14 _ _ hq13)) (dpAll_app ((hk13.ex e14).dpO) (.cons .non .nil))) (.cons (.bl _) .nil))
    refine ⟨_, rfl, eqE goodFO (by decide) dd1 dd2 ⟨_, rfl, ifF (decide_eq_false (fun z => grow_ne _ (congrArg Prod.fst z))) ?_⟩⟩
    have e614 := eM.trans e14
    have e314 := (e35.trans e6).trans e614
    have j14 := j3.ex e314
    refine ⟨_, rfl, _, rfl, _, rfl, j, A, _, vf, cs, W, rfl, j14, by omega, e314 _ _ hA3, nAj, by omega, by omega, mc, f6.ex e614, fun H15 x15 j15 => ?_⟩
    refine ⟨_, rfl, ifF rfl ?_⟩
    have f15 := (f6.ex e614).dj j14 x15
    have l15 := (l6.ex e614).dj j14 x15
    have hA15 := x15 _ _ nAj (e314 _ _ hA3)
    -- shortest
    refine st_eq (σ' := [some (.ref j), some (.int (W : Nat)), some (.ref A), some (.ref B), some vf, some vl, some (.str (eL eF [formL cs, formL ds]).shown), some (.ref pb), none]) (P := fun σ => tSeq _ _ _ σ H15) rfl ?_
    refine ⟨_, rfl, vf, formL cs, rfl, f15, by omega, hf, one, fun S H16 nS e16 hS => ?_⟩
    have sl20 : (shortL (formL cs)).length ≤ 20 := by omega
    refine ⟨_, rfl, S, shortL (formL cs), rfl, sqI hS, by omega, snn, fun v17 H17 e17 f17 => ?_⟩
    rw [sf] at f17
    refine ⟨_, rfl, neE goodF (by decide) f17.dp (f15.ex (e16.trans e17)).dp ⟨_, rfl, ifF same ?_⟩⟩
    refine ⟨_, rfl, vf, formL cs, rfl, f15.ex (e16.trans e17), by omega, hf, one, fun S2 H18 nS2 e18 hS2 => ?_⟩
    have hS18 := (e17.trans e18) _ _ hS
    refine ⟨_, rfl, neI_ (xs := shortL (formL cs)) (ys := shortL (formL cs)) (sqI hS2) (sqI hS18) ⟨_, rfl, ifF same ?_⟩⟩
    have e1518 := e16.trans (e17.trans e18)
    refine ⟨_, rfl, _, _, rfl, .inl (sqI hS18), _, rfl, _, _, rfl, .inl (sqI (e1518 _ _ hA15)), _, _, rfl, _, _, rfl, rfl, _, rfl, ifF (decide_eq_false ?_) ?_⟩
    · rw [List.length_map, List.length_map]
      split <;> omega
    refine ⟨fun b H' => b = false ∧ Ex H18 H', ?_, ?_⟩
    · refine ⟨_, rfl, _, _, rfl, rfl, _, rfl, ?_⟩
      refine ifB (fun c => ?_) (fun c => ⟨rfl, Evl.Ex.refl _⟩)
      have c : ((W : Nat) : Int) < 3 := of_decide_eq_true c
      refine ⟨_, rfl, _, rfl, _, rfl, W, vf, formL cs, shortL (formL cs), rfl, W1, by omega, f15.ex e1518, ff (by omega), fun p19 H19 e19 h19 => ?_⟩
      exact neI_ (xs := shortL (formL cs)) (ys := shortL (formL cs)) (sqI (e19 _ _ hS18)) (sqI h19) ⟨_, rfl, same, e19⟩
    rintro b H19 ⟨rfl, e19⟩
    refine ifF rfl ?_
    have hS19 := e19 _ _ hS18
    refine ⟨_, rfl, .inl ⟨rfl, _, sqI hS19⟩, _, _, _, rfl, rfl, hS19, ?_, ?_⟩
    · rw [List.length_map]
      exact Nat.lt_of_le_of_lt sl20 (by decide)
    have eS : Ex H15 (upd H19 S (.lst ((shortL (formL cs)).map V.int ++ [.non]))) := Evl.Ex.mut (e1518.trans e19) nS
    have hS20 : upd H19 S (.lst ((shortL (formL cs)).map V.int ++ [.non])) S = some (.lst ((shortL (formL cs)).map V.int ++ [.non])) := upd_same
    generalize upd H19 S (.lst ((shortL (formL cs)).map V.int ++ [V.non])) = H20 at eS hS20
    refine st_eq (σ' := [some (.ref j), some (.int (W : Nat)), some (.ref A), some (.ref B), some vf, some vl, some (.str (eL eF [formL cs, formL ds]).shown), some (.ref pb), some (.ref S)]) (P := fun σ => tSeq _ _ _ σ H20) rfl ?_
    refine ⟨_, rfl, vf, formL cs, rfl, f15.ex eS, by omega, hf, one, fun S3 H21 nS3 e21 hS3 => ?_⟩
    have c1 : Dp K H21 (.ref S3) (eL (optE PyData.int) ((shortL (formL cs)).map some)) := .lst (sqI hS3) (intsO _)
    have c2 : Dp K H21 (.ref S) (eL (optE PyData.int) ((shortL (formL cs)).map some ++ [none])) := by
      unfold eL
      rw [List.map_append]
      exact .lst (sqI (e21 _ _ hS20)) (dpAll_app (intsO _) (.cons .non .nil))
    refine ⟨_, rfl, eqE goodIO (by decide) c1 c2 ⟨_, rfl, ifF (decide_eq_false (grow_ne _)) ?_⟩⟩
    refine ⟨_, rfl, _, rfl, (by show 2 ≤ sizeLine; decide), fun p22 H22 n22 e22 h22 => ?_⟩
    have e1522 := eS.trans (e21.trans e22)
    refine ⟨.ref p22, eL eF [formL cs, formL ds], rfl, dpTwo h22 (f15.ex e1522) (l15.ex e1522), shwTwoF s1 t1 s2 t2, ?_⟩
    refine ⟨_, rfl, rfl, _, rfl, ifF (nef rfl) ?_⟩
    have j22 := j15.ex e1522
    have x22 : Exj j H H22 := x1.trans (x2.trans (x3.trans ((Exj.of e314).trans (x15.trans (Exj.of e1522)))))
    refine ⟨_, rfl, j, _, rfl, j22, by omega, fun H23 x23 j23 => ?_⟩
    refine ⟨_, rfl, iteT ?_⟩
    refine ⟨_, rfl, j, _, rfl, j23, by omega, fun H24 x24 j24 => ?_⟩
    refine ⟨_, rfl, iteT ?_⟩
    refine ⟨_, rfl, j, _, rfl, j24, by omega, fun H25 x25 j25 => ?_⟩
    exact k H25 (x22.trans (x23.trans (x24.trans x25)))
theorem ok_law (T : Txt K mg) : FnOkG PR w K mg base CX0 7 T.a_law T.d_law ["_law_script"] (sp_law K) := by
  refine T.f_law.okG sc_law (fun vs H Q E h => ?_) (fun cdv A outer s H vs Q E hr gd h => ?_)
  · obtain ⟨a, ns, rfl, _⟩ := h
    rfl
  · obtain ⟨sa, sc, rfl, hs, hsl, k⟩ := h
    refine ⟨_, (pss_cons (ps_for PassesOwn.never rfl (pi_range1 (by rfl) T.z_range (pa_cons (pe_callB (call_max2 rfl) (by rfl) T.z_max (by decide +kernel) (pa_cons pe_int (pa_cons (pe_callB (call_min2 rfl) (by rfl) T.z_min (by decide +kernel) (pa_cons pe_int (pa_cons (pe_callB call_len_seq (by rfl) T.z_len PySem.boot_len (pa_cons (pv 0) pa_nil)) pa_nil))) pa_nil))) pa_nil)) (pg_name (i := 1) sc_law.nd rfl (by first | exact Or.inl rfl | exact Or.inr rfl)) (pss_one (ps_if (pt_not (pt_val (pe_callG (ok__law_right T) (hr.mono (by decide)) gd (by rfl) T.g__law_right T.f__law_right.kp (b__law_right T) .nil pass0 (pa_cons (pe_call (ok__law_open T) (hr.mono (by decide)) (by rfl) T.g__law_open T.f__law_open.kp (b__law_open T) .nil pass0 (pa_cons (pv 0) (pa_cons (pv 1) pa_nil))) pa_nil)))) (pss_one (ps_ret pe_bl)) pss_nil))) (pss_one (ps_ret (pe_cmpR op_eq (pe_call (ok_number_of_forms T) (hr.mono (by decide)) (by rfl) T.g_number_of_forms T.f_number_of_forms.kp (b_number_of_forms T) .nil passL (pa_cons pe_int pa_nil)) (pe_op op_add (pe_op op_add pe_int pe_int) (pe_op op_mul pe_int (pe_op op_add (pe_op op_add (pe_op op_add pe_int pe_int) pe_int) pe_int))) (nomark _))))), ?_⟩
    have em : ∃ c : Nat, (if (if ((sc.map V.int).length : Int) < 4 then ((sc.map V.int).length : Int) else 4) > 1 then (if ((sc.map V.int).length : Int) < 4 then ((sc.map V.int).length : Int) else 4) else 1) = (c : Int) ∧ c ≤ 4 := by
      rw [List.length_map]
      refine ⟨max 1 (min 4 sc.length), ?_, by omega⟩
      split <;> split <;> omega
    obtain ⟨c, ec, c5⟩ := em
    refine ⟨_, rfl, _, _, rfl, .inl hs, _, _, rfl, _, _, rfl, ?_⟩
    rw [ec]
    refine ⟨_, rfl, (by omega), (by omega), for_range (lo := 0) (n := ((c : Int)).toNat) (fun i σ H' => ∃ v1, σ = [some (.ref sa), v1] ∧ SqL K H' sa (sc.map V.int)) ⟨_, rfl, hs⟩ ?_ ?_⟩
    · rintro i σ H0 hi ⟨v1, rfl, hs0⟩
      refine ⟨_, rfl, _, rfl, sa, sc, _, rfl, hs0, by omega, by omega, fun j H1 nj e1 j1 => ?_⟩
      refine ⟨j, rfl, j1, fun H2 x2 => ?_⟩
      refine ⟨_, rfl, ifF rfl ?_⟩
      have all : Ex H0 H2 := fun b o hb => x2 b o (fun z => by rw [z, nj] at hb; cases hb) (e1 b o hb)
      exact ⟨_, rfl, Evl.ex_l all hs0⟩
    · rintro σ H' ⟨v1, rfl, hs'⟩
      refine ⟨5, rfl, by omega, by omega, fun H2 e2 => ?_⟩
      refine ⟨_, _, rfl, rfl, _, _, rfl, rfl, _, _, rfl, rfl, _, _, rfl, rfl, _, _, rfl, rfl, .inl ⟨by decide, by decide⟩, _, _, rfl, rfl, rfl, ?_⟩
      rw [forms_45.2]
      show Q (.bl (decide (V.int 12651 = V.int 12651))) H2
      rw [decide_eq_true rfl]
      exact k H2
end
end K10
namespace K10
open PySem L2 My
theorem all_mk {K : PySem.W.Frag} {h : Heap} {mg : Str → Option Value} (X : K.In h) (G : h.Ns mainGlobals mg)
    {f0 : Addr} {od0 an0 : Option Addr} {sl0 : Array (Option Value)} {oc0 kV0 dc0 pm0 cd0 ct0 : Value}
    (a0 : PySem.W.nsIn K mainGlobals "need_column" = some (some (.ref f0))) (l0 : K.lookup f0 = some ⟨oc0, od0, .func (PySem.W.fnOf "need_column" "need_column" (defArgs s_need_column) (defBody s_need_column) (defScope s_need_column) .none kV0 dc0 pm0 an0 cd0 ct0), sl0⟩) (c0 : PySem.W.codeIn K cd0 "need_column" = true) (k0 : PySem.W.keepIn K (.ref f0) = true)
    {f1 : Addr} {od1 an1 : Option Addr} {sl1 : Array (Option Value)} {oc1 kV1 dc1 pm1 cd1 ct1 : Value}
    (a1 : PySem.W.nsIn K mainGlobals "are_keys" = some (some (.ref f1))) (l1 : K.lookup f1 = some ⟨oc1, od1, .func (PySem.W.fnOf "are_keys" "are_keys" (defArgs s_are_keys) (defBody s_are_keys) (defScope s_are_keys) .none kV1 dc1 pm1 an1 cd1 ct1), sl1⟩) (c1 : PySem.W.codeIn K cd1 "are_keys" = true) (k1 : PySem.W.keepIn K (.ref f1) = true)
    {f2 : Addr} {od2 an2 : Option Addr} {sl2 : Array (Option Value)} {oc2 kV2 dc2 pm2 cd2 ct2 : Value}
    (a2 : PySem.W.nsIn K mainGlobals "is_sorting_of" = some (some (.ref f2))) (l2 : K.lookup f2 = some ⟨oc2, od2, .func (PySem.W.fnOf "is_sorting_of" "is_sorting_of" (defArgs s_is_sorting_of) (defBody s_is_sorting_of) (defScope s_is_sorting_of) .none kV2 dc2 pm2 an2 cd2 ct2), sl2⟩) (c2 : PySem.W.codeIn K cd2 "is_sorting_of" = true) (k2 : PySem.W.keepIn K (.ref f2) = true)
    {f3 : Addr} {od3 an3 : Option Addr} {sl3 : Array (Option Value)} {oc3 kV3 dc3 pm3 cd3 ct3 : Value}
    (a3 : PySem.W.nsIn K mainGlobals "need_sorting" = some (some (.ref f3))) (l3 : K.lookup f3 = some ⟨oc3, od3, .func (PySem.W.fnOf "need_sorting" "need_sorting" (defArgs s_need_sorting) (defBody s_need_sorting) (defScope s_need_sorting) .none kV3 dc3 pm3 an3 cd3 ct3), sl3⟩) (c3 : PySem.W.codeIn K cd3 "need_sorting" = true) (k3 : PySem.W.keepIn K (.ref f3) = true)
    {f4 : Addr} {od4 an4 : Option Addr} {sl4 : Array (Option Value)} {oc4 kV4 dc4 pm4 cd4 ct4 : Value}
    (a4 : PySem.W.nsIn K mainGlobals "after_click" = some (some (.ref f4))) (l4 : K.lookup f4 = some ⟨oc4, od4, .func (PySem.W.fnOf "after_click" "after_click" (defArgs s_after_click) (defBody s_after_click) (defScope s_after_click) .none kV4 dc4 pm4 an4 cd4 ct4), sl4⟩) (c4 : PySem.W.codeIn K cd4 "after_click" = true) (k4 : PySem.W.keepIn K (.ref f4) = true)
    {f5 : Addr} {od5 an5 : Option Addr} {sl5 : Array (Option Value)} {oc5 kV5 dc5 pm5 cd5 ct5 : Value}
    (a5 : PySem.W.nsIn K mainGlobals "need_width" = some (some (.ref f5))) (l5 : K.lookup f5 = some ⟨oc5, od5, .func (PySem.W.fnOf "need_width" "need_width" (defArgs s_need_width) (defBody s_need_width) (defScope s_need_width) .none kV5 dc5 pm5 an5 cd5 ct5), sl5⟩) (c5 : PySem.W.codeIn K cd5 "need_width" = true) (k5 : PySem.W.keepIn K (.ref f5) = true)
    {f6 : Addr} {od6 an6 : Option Addr} {sl6 : Array (Option Value)} {oc6 kV6 dc6 pm6 cd6 ct6 : Value}
    (a6 : PySem.W.nsIn K mainGlobals "need_keys" = some (some (.ref f6))) (l6 : K.lookup f6 = some ⟨oc6, od6, .func (PySem.W.fnOf "need_keys" "need_keys" (defArgs s_need_keys) (defBody s_need_keys) (defScope s_need_keys) .none kV6 dc6 pm6 an6 cd6 ct6), sl6⟩) (c6 : PySem.W.codeIn K cd6 "need_keys" = true) (k6 : PySem.W.keepIn K (.ref f6) = true)
    {f7 : Addr} {od7 an7 : Option Addr} {sl7 : Array (Option Value)} {oc7 kV7 dc7 pm7 cd7 ct7 : Value}
    (a7 : PySem.W.nsIn K mainGlobals "all_sortings" = some (some (.ref f7))) (l7 : K.lookup f7 = some ⟨oc7, od7, .func (PySem.W.fnOf "all_sortings" "all_sortings" (defArgs s_all_sortings) (defBody s_all_sortings) (defScope s_all_sortings) .none kV7 dc7 pm7 an7 cd7 ct7), sl7⟩) (c7 : PySem.W.codeIn K cd7 "all_sortings" = true) (k7 : PySem.W.keepIn K (.ref f7) = true)
    {f8 : Addr} {od8 an8 : Option Addr} {sl8 : Array (Option Value)} {oc8 kV8 dc8 pm8 cd8 ct8 : Value}
    (a8 : PySem.W.nsIn K mainGlobals "after_clicks" = some (some (.ref f8))) (l8 : K.lookup f8 = some ⟨oc8, od8, .func (PySem.W.fnOf "after_clicks" "after_clicks" (defArgs s_after_clicks) (defBody s_after_clicks) (defScope s_after_clicks) .none kV8 dc8 pm8 an8 cd8 ct8), sl8⟩) (c8 : PySem.W.codeIn K cd8 "after_clicks" = true) (k8 : PySem.W.keepIn K (.ref f8) = true)
    {f9 : Addr} {od9 an9 : Option Addr} {sl9 : Array (Option Value)} {oc9 kV9 dc9 pm9 cd9 ct9 : Value}
    (a9 : PySem.W.nsIn K mainGlobals "has_form" = some (some (.ref f9))) (l9 : K.lookup f9 = some ⟨oc9, od9, .func (PySem.W.fnOf "has_form" "has_form" (defArgs s_has_form) (defBody s_has_form) (defScope s_has_form) .none kV9 dc9 pm9 an9 cd9 ct9), sl9⟩) (c9 : PySem.W.codeIn K cd9 "has_form" = true) (k9 : PySem.W.keepIn K (.ref f9) = true)
    {f10 : Addr} {od10 an10 : Option Addr} {sl10 : Array (Option Value)} {oc10 kV10 dc10 pm10 cd10 ct10 : Value}
    (a10 : PySem.W.nsIn K mainGlobals "need_form" = some (some (.ref f10))) (l10 : K.lookup f10 = some ⟨oc10, od10, .func (PySem.W.fnOf "need_form" "need_form" (defArgs s_need_form) (defBody s_need_form) (defScope s_need_form) .none kV10 dc10 pm10 an10 cd10 ct10), sl10⟩) (c10 : PySem.W.codeIn K cd10 "need_form" = true) (k10 : PySem.W.keepIn K (.ref f10) = true)
    {f11 : Addr} {od11 an11 : Option Addr} {sl11 : Array (Option Value)} {oc11 kV11 dc11 pm11 cd11 ct11 : Value}
    (a11 : PySem.W.nsIn K mainGlobals "columns_of" = some (some (.ref f11))) (l11 : K.lookup f11 = some ⟨oc11, od11, .func (PySem.W.fnOf "columns_of" "columns_of" (defArgs s_columns_of) (defBody s_columns_of) (defScope s_columns_of) .none kV11 dc11 pm11 an11 cd11 ct11), sl11⟩) (c11 : PySem.W.codeIn K cd11 "columns_of" = true) (k11 : PySem.W.keepIn K (.ref f11) = true)
    {f12 : Addr} {od12 an12 : Option Addr} {sl12 : Array (Option Value)} {oc12 kV12 dc12 pm12 cd12 ct12 : Value}
    (a12 : PySem.W.nsIn K mainGlobals "is_left_alone" = some (some (.ref f12))) (l12 : K.lookup f12 = some ⟨oc12, od12, .func (PySem.W.fnOf "is_left_alone" "is_left_alone" (defArgs s_is_left_alone) (defBody s_is_left_alone) (defScope s_is_left_alone) .none kV12 dc12 pm12 an12 cd12 ct12), sl12⟩) (c12 : PySem.W.codeIn K cd12 "is_left_alone" = true) (k12 : PySem.W.keepIn K (.ref f12) = true)
    {f13 : Addr} {od13 an13 : Option Addr} {sl13 : Array (Option Value)} {oc13 kV13 dc13 pm13 cd13 ct13 : Value}
    (a13 : PySem.W.nsIn K mainGlobals "made_form" = some (some (.ref f13))) (l13 : K.lookup f13 = some ⟨oc13, od13, .func (PySem.W.fnOf "made_form" "made_form" (defArgs s_made_form) (defBody s_made_form) (defScope s_made_form) .none kV13 dc13 pm13 an13 cd13 ct13), sl13⟩) (c13 : PySem.W.codeIn K cd13 "made_form" = true) (k13 : PySem.W.keepIn K (.ref f13) = true)
    {f14 : Addr} {od14 an14 : Option Addr} {sl14 : Array (Option Value)} {oc14 kV14 dc14 pm14 cd14 ct14 : Value}
    (a14 : PySem.W.nsIn K mainGlobals "form_of" = some (some (.ref f14))) (l14 : K.lookup f14 = some ⟨oc14, od14, .func (PySem.W.fnOf "form_of" "form_of" (defArgs s_form_of) (defBody s_form_of) (defScope s_form_of) .none kV14 dc14 pm14 an14 cd14 ct14), sl14⟩) (c14 : PySem.W.codeIn K cd14 "form_of" = true) (k14 : PySem.W.keepIn K (.ref f14) = true)
    {f15 : Addr} {od15 an15 : Option Addr} {sl15 : Array (Option Value)} {oc15 kV15 dc15 pm15 cd15 ct15 : Value}
    (a15 : PySem.W.nsIn K mainGlobals "made_of" = some (some (.ref f15))) (l15 : K.lookup f15 = some ⟨oc15, od15, .func (PySem.W.fnOf "made_of" "made_of" (defArgs s_made_of) (defBody s_made_of) (defScope s_made_of) .none kV15 dc15 pm15 an15 cd15 ct15), sl15⟩) (c15 : PySem.W.codeIn K cd15 "made_of" = true) (k15 : PySem.W.keepIn K (.ref f15) = true)
    {f16 : Addr} {od16 an16 : Option Addr} {sl16 : Array (Option Value)} {oc16 kV16 dc16 pm16 cd16 ct16 : Value}
    (a16 : PySem.W.nsIn K mainGlobals "formed" = some (some (.ref f16))) (l16 : K.lookup f16 = some ⟨oc16, od16, .func (PySem.W.fnOf "formed" "formed" (defArgs s_formed) (defBody s_formed) (defScope s_formed) .none kV16 dc16 pm16 an16 cd16 ct16), sl16⟩) (c16 : PySem.W.codeIn K cd16 "formed" = true) (k16 : PySem.W.keepIn K (.ref f16) = true)
    {f17 : Addr} {od17 an17 : Option Addr} {sl17 : Array (Option Value)} {oc17 kV17 dc17 pm17 cd17 ct17 : Value}
    (a17 : PySem.W.nsIn K mainGlobals "joined_form" = some (some (.ref f17))) (l17 : K.lookup f17 = some ⟨oc17, od17, .func (PySem.W.fnOf "joined_form" "joined_form" (defArgs s_joined_form) (defBody s_joined_form) (defScope s_joined_form) .none kV17 dc17 pm17 an17 cd17 ct17), sl17⟩) (c17 : PySem.W.codeIn K cd17 "joined_form" = true) (k17 : PySem.W.keepIn K (.ref f17) = true)
    {f18 : Addr} {od18 an18 : Option Addr} {sl18 : Array (Option Value)} {oc18 kV18 dc18 pm18 cd18 ct18 : Value}
    (a18 : PySem.W.nsIn K mainGlobals "joined" = some (some (.ref f18))) (l18 : K.lookup f18 = some ⟨oc18, od18, .func (PySem.W.fnOf "joined" "joined" (defArgs s_joined) (defBody s_joined) (defScope s_joined) .none kV18 dc18 pm18 an18 cd18 ct18), sl18⟩) (c18 : PySem.W.codeIn K cd18 "joined" = true) (k18 : PySem.W.keepIn K (.ref f18) = true)
    {f19 : Addr} {od19 an19 : Option Addr} {sl19 : Array (Option Value)} {oc19 kV19 dc19 pm19 cd19 ct19 : Value}
    (a19 : PySem.W.nsIn K mainGlobals "shortest_clicks" = some (some (.ref f19))) (l19 : K.lookup f19 = some ⟨oc19, od19, .func (PySem.W.fnOf "shortest_clicks" "shortest_clicks" (defArgs s_shortest_clicks) (defBody s_shortest_clicks) (defScope s_shortest_clicks) .none kV19 dc19 pm19 an19 cd19 ct19), sl19⟩) (c19 : PySem.W.codeIn K cd19 "shortest_clicks" = true) (k19 : PySem.W.keepIn K (.ref f19) = true)
    {f20 : Addr} {od20 an20 : Option Addr} {sl20 : Array (Option Value)} {oc20 kV20 dc20 pm20 cd20 ct20 : Value}
    (a20 : PySem.W.nsIn K mainGlobals "clicks_for" = some (some (.ref f20))) (l20 : K.lookup f20 = some ⟨oc20, od20, .func (PySem.W.fnOf "clicks_for" "clicks_for" (defArgs s_clicks_for) (defBody s_clicks_for) (defScope s_clicks_for) .none kV20 dc20 pm20 an20 cd20 ct20), sl20⟩) (c20 : PySem.W.codeIn K cd20 "clicks_for" = true) (k20 : PySem.W.keepIn K (.ref f20) = true)
    {f21 : Addr} {od21 an21 : Option Addr} {sl21 : Array (Option Value)} {oc21 kV21 dc21 pm21 cd21 ct21 : Value}
    (a21 : PySem.W.nsIn K mainGlobals "choices" = some (some (.ref f21))) (l21 : K.lookup f21 = some ⟨oc21, od21, .func (PySem.W.fnOf "choices" "choices" (defArgs s_choices) (defBody s_choices) (defScope s_choices) .none kV21 dc21 pm21 an21 cd21 ct21), sl21⟩) (c21 : PySem.W.codeIn K cd21 "choices" = true) (k21 : PySem.W.keepIn K (.ref f21) = true)
    {f22 : Addr} {od22 an22 : Option Addr} {sl22 : Array (Option Value)} {oc22 kV22 dc22 pm22 cd22 ct22 : Value}
    (a22 : PySem.W.nsIn K mainGlobals "number_of_forms" = some (some (.ref f22))) (l22 : K.lookup f22 = some ⟨oc22, od22, .func (PySem.W.fnOf "number_of_forms" "number_of_forms" (defArgs s_number_of_forms) (defBody s_number_of_forms) (defScope s_number_of_forms) .none kV22 dc22 pm22 an22 cd22 ct22), sl22⟩) (c22 : PySem.W.codeIn K cd22 "number_of_forms" = true) (k22 : PySem.W.keepIn K (.ref f22) = true)
    {f23 : Addr} {od23 an23 : Option Addr} {sl23 : Array (Option Value)} {oc23 kV23 dc23 pm23 cd23 ct23 : Value}
    (a23 : PySem.W.nsIn K mainGlobals "repeated" = some (some (.ref f23))) (l23 : K.lookup f23 = some ⟨oc23, od23, .func (PySem.W.fnOf "repeated" "repeated" (defArgs s_repeated) (defBody s_repeated) (defScope s_repeated) .none kV23 dc23 pm23 an23 cd23 ct23), sl23⟩) (c23 : PySem.W.codeIn K cd23 "repeated" = true) (k23 : PySem.W.keepIn K (.ref f23) = true)
    {f24 : Addr} {od24 an24 : Option Addr} {sl24 : Array (Option Value)} {oc24 kV24 dc24 pm24 cd24 ct24 : Value}
    (a24 : PySem.W.nsIn K mainGlobals "number_made" = some (some (.ref f24))) (l24 : K.lookup f24 = some ⟨oc24, od24, .func (PySem.W.fnOf "number_made" "number_made" (defArgs s_number_made) (defBody s_number_made) (defScope s_number_made) .none kV24 dc24 pm24 an24 cd24 ct24), sl24⟩) (c24 : PySem.W.codeIn K cd24 "number_made" = true) (k24 : PySem.W.keepIn K (.ref f24) = true)
    {f25 : Addr} {od25 an25 : Option Addr} {sl25 : Array (Option Value)} {oc25 kV25 dc25 pm25 cd25 ct25 : Value}
    (a25 : PySem.W.nsIn K mainGlobals "all_forms" = some (some (.ref f25))) (l25 : K.lookup f25 = some ⟨oc25, od25, .func (PySem.W.fnOf "all_forms" "all_forms" (defArgs s_all_forms) (defBody s_all_forms) (defScope s_all_forms) .none kV25 dc25 pm25 an25 cd25 ct25), sl25⟩) (c25 : PySem.W.codeIn K cd25 "all_forms" = true) (k25 : PySem.W.keepIn K (.ref f25) = true)
    {f26 : Addr} {od26 an26 : Option Addr} {sl26 : Array (Option Value)} {oc26 kV26 dc26 pm26 cd26 ct26 : Value}
    (a26 : PySem.W.nsIn K mainGlobals "forms_between" = some (some (.ref f26))) (l26 : K.lookup f26 = some ⟨oc26, od26, .func (PySem.W.fnOf "forms_between" "forms_between" (defArgs s_forms_between) (defBody s_forms_between) (defScope s_forms_between) .none kV26 dc26 pm26 an26 cd26 ct26), sl26⟩) (c26 : PySem.W.codeIn K cd26 "forms_between" = true) (k26 : PySem.W.keepIn K (.ref f26) = true)
    {f27 : Addr} {od27 an27 : Option Addr} {sl27 : Array (Option Value)} {oc27 kV27 dc27 pm27 cd27 ct27 : Value}
    (a27 : PySem.W.nsIn K mainGlobals "_law_open" = some (some (.ref f27))) (l27 : K.lookup f27 = some ⟨oc27, od27, .func (PySem.W.fnOf "_law_open" "_law_open" (defArgs s__law_open) (defBody s__law_open) (defScope s__law_open) .none kV27 dc27 pm27 an27 cd27 ct27), sl27⟩) (c27 : PySem.W.codeIn K cd27 "_law_open" = true) (k27 : PySem.W.keepIn K (.ref f27) = true)
    {f28 : Addr} {od28 an28 : Option Addr} {sl28 : Array (Option Value)} {oc28 kV28 dc28 pm28 cd28 ct28 : Value}
    (a28 : PySem.W.nsIn K mainGlobals "_law_draw" = some (some (.ref f28))) (l28 : K.lookup f28 = some ⟨oc28, od28, .func (PySem.W.fnOf "_law_draw" "_law_draw" (defArgs s__law_draw) (defBody s__law_draw) (defScope s__law_draw) .none kV28 dc28 pm28 an28 cd28 ct28), sl28⟩) (c28 : PySem.W.codeIn K cd28 "_law_draw" = true) (k28 : PySem.W.keepIn K (.ref f28) = true)
    {f29 : Addr} {od29 an29 : Option Addr} {sl29 : Array (Option Value)} {oc29 kV29 dc29 pm29 cd29 ct29 : Value}
    (a29 : PySem.W.nsIn K mainGlobals "_law_large" = some (some (.ref f29))) (l29 : K.lookup f29 = some ⟨oc29, od29, .func (PySem.W.fnOf "_law_large" "_law_large" (defArgs s__law_large) (defBody s__law_large) (defScope s__law_large) .none kV29 dc29 pm29 an29 cd29 ct29), sl29⟩) (c29 : PySem.W.codeIn K cd29 "_law_large" = true) (k29 : PySem.W.keepIn K (.ref f29) = true)
    {f30 : Addr} {od30 an30 : Option Addr} {sl30 : Array (Option Value)} {oc30 kV30 dc30 pm30 cd30 ct30 : Value}
    (a30 : PySem.W.nsIn K mainGlobals "_law_clicks" = some (some (.ref f30))) (l30 : K.lookup f30 = some ⟨oc30, od30, .func (PySem.W.fnOf "_law_clicks" "_law_clicks" (defArgs s__law_clicks) (defBody s__law_clicks) (defScope s__law_clicks) .none kV30 dc30 pm30 an30 cd30 ct30), sl30⟩) (c30 : PySem.W.codeIn K cd30 "_law_clicks" = true) (k30 : PySem.W.keepIn K (.ref f30) = true)
    {f31 : Addr} {od31 an31 : Option Addr} {sl31 : Array (Option Value)} {oc31 kV31 dc31 pm31 cd31 ct31 : Value}
    (a31 : PySem.W.nsIn K mainGlobals "_law_click" = some (some (.ref f31))) (l31 : K.lookup f31 = some ⟨oc31, od31, .func (PySem.W.fnOf "_law_click" "_law_click" (defArgs s__law_click) (defBody s__law_click) (defScope s__law_click) .none kV31 dc31 pm31 an31 cd31 ct31), sl31⟩) (c31 : PySem.W.codeIn K cd31 "_law_click" = true) (k31 : PySem.W.keepIn K (.ref f31) = true)
    {f32 : Addr} {od32 an32 : Option Addr} {sl32 : Array (Option Value)} {oc32 kV32 dc32 pm32 cd32 ct32 : Value}
    (a32 : PySem.W.nsIn K mainGlobals "_law_after" = some (some (.ref f32))) (l32 : K.lookup f32 = some ⟨oc32, od32, .func (PySem.W.fnOf "_law_after" "_law_after" (defArgs s__law_after) (defBody s__law_after) (defScope s__law_after) .none kV32 dc32 pm32 an32 cd32 ct32), sl32⟩) (c32 : PySem.W.codeIn K cd32 "_law_after" = true) (k32 : PySem.W.keepIn K (.ref f32) = true)
    {f33 : Addr} {od33 an33 : Option Addr} {sl33 : Array (Option Value)} {oc33 kV33 dc33 pm33 cd33 ct33 : Value}
    (a33 : PySem.W.nsIn K mainGlobals "_law_keys" = some (some (.ref f33))) (l33 : K.lookup f33 = some ⟨oc33, od33, .func (PySem.W.fnOf "_law_keys" "_law_keys" (defArgs s__law_keys) (defBody s__law_keys) (defScope s__law_keys) .none kV33 dc33 pm33 an33 cd33 ct33), sl33⟩) (c33 : PySem.W.codeIn K cd33 "_law_keys" = true) (k33 : PySem.W.keepIn K (.ref f33) = true)
    {f34 : Addr} {od34 an34 : Option Addr} {sl34 : Array (Option Value)} {oc34 kV34 dc34 pm34 cd34 ct34 : Value}
    (a34 : PySem.W.nsIn K mainGlobals "_law_every" = some (some (.ref f34))) (l34 : K.lookup f34 = some ⟨oc34, od34, .func (PySem.W.fnOf "_law_every" "_law_every" (defArgs s__law_every) (defBody s__law_every) (defScope s__law_every) .none kV34 dc34 pm34 an34 cd34 ct34), sl34⟩) (c34 : PySem.W.codeIn K cd34 "_law_every" = true) (k34 : PySem.W.keepIn K (.ref f34) = true)
    {f35 : Addr} {od35 an35 : Option Addr} {sl35 : Array (Option Value)} {oc35 kV35 dc35 pm35 cd35 ct35 : Value}
    (a35 : PySem.W.nsIn K mainGlobals "_law_lists" = some (some (.ref f35))) (l35 : K.lookup f35 = some ⟨oc35, od35, .func (PySem.W.fnOf "_law_lists" "_law_lists" (defArgs s__law_lists) (defBody s__law_lists) (defScope s__law_lists) .none kV35 dc35 pm35 an35 cd35 ct35), sl35⟩) (c35 : PySem.W.codeIn K cd35 "_law_lists" = true) (k35 : PySem.W.keepIn K (.ref f35) = true)
    {f36 : Addr} {od36 an36 : Option Addr} {sl36 : Array (Option Value)} {oc36 kV36 dc36 pm36 cd36 ct36 : Value}
    (a36 : PySem.W.nsIn K mainGlobals "_law_first" = some (some (.ref f36))) (l36 : K.lookup f36 = some ⟨oc36, od36, .func (PySem.W.fnOf "_law_first" "_law_first" (defArgs s__law_first) (defBody s__law_first) (defScope s__law_first) .none kV36 dc36 pm36 an36 cd36 ct36), sl36⟩) (c36 : PySem.W.codeIn K cd36 "_law_first" = true) (k36 : PySem.W.keepIn K (.ref f36) = true)
    {f37 : Addr} {od37 an37 : Option Addr} {sl37 : Array (Option Value)} {oc37 kV37 dc37 pm37 cd37 ct37 : Value}
    (a37 : PySem.W.nsIn K mainGlobals "_law_short" = some (some (.ref f37))) (l37 : K.lookup f37 = some ⟨oc37, od37, .func (PySem.W.fnOf "_law_short" "_law_short" (defArgs s__law_short) (defBody s__law_short) (defScope s__law_short) .none kV37 dc37 pm37 an37 cd37 ct37), sl37⟩) (c37 : PySem.W.codeIn K cd37 "_law_short" = true) (k37 : PySem.W.keepIn K (.ref f37) = true)
    {f38 : Addr} {od38 an38 : Option Addr} {sl38 : Array (Option Value)} {oc38 kV38 dc38 pm38 cd38 ct38 : Value}
    (a38 : PySem.W.nsIn K mainGlobals "_law_great_right" = some (some (.ref f38))) (l38 : K.lookup f38 = some ⟨oc38, od38, .func (PySem.W.fnOf "_law_great_right" "_law_great_right" (defArgs s__law_great_right) (defBody s__law_great_right) (defScope s__law_great_right) .none kV38 dc38 pm38 an38 cd38 ct38), sl38⟩) (c38 : PySem.W.codeIn K cd38 "_law_great_right" = true) (k38 : PySem.W.keepIn K (.ref f38) = true)
    {f39 : Addr} {od39 an39 : Option Addr} {sl39 : Array (Option Value)} {oc39 kV39 dc39 pm39 cd39 ct39 : Value}
    (a39 : PySem.W.nsIn K mainGlobals "_law_counts_right" = some (some (.ref f39))) (l39 : K.lookup f39 = some ⟨oc39, od39, .func (PySem.W.fnOf "_law_counts_right" "_law_counts_right" (defArgs s__law_counts_right) (defBody s__law_counts_right) (defScope s__law_counts_right) .none kV39 dc39 pm39 an39 cd39 ct39), sl39⟩) (c39 : PySem.W.codeIn K cd39 "_law_counts_right" = true) (k39 : PySem.W.keepIn K (.ref f39) = true)
    {f40 : Addr} {od40 an40 : Option Addr} {sl40 : Array (Option Value)} {oc40 kV40 dc40 pm40 cd40 ct40 : Value}
    (a40 : PySem.W.nsIn K mainGlobals "_law_between_right" = some (some (.ref f40))) (l40 : K.lookup f40 = some ⟨oc40, od40, .func (PySem.W.fnOf "_law_between_right" "_law_between_right" (defArgs s__law_between_right) (defBody s__law_between_right) (defScope s__law_between_right) .none kV40 dc40 pm40 an40 cd40 ct40), sl40⟩) (c40 : PySem.W.codeIn K cd40 "_law_between_right" = true) (k40 : PySem.W.keepIn K (.ref f40) = true)
    {f41 : Addr} {od41 an41 : Option Addr} {sl41 : Array (Option Value)} {oc41 kV41 dc41 pm41 cd41 ct41 : Value}
    (a41 : PySem.W.nsIn K mainGlobals "_law_times_right" = some (some (.ref f41))) (l41 : K.lookup f41 = some ⟨oc41, od41, .func (PySem.W.fnOf "_law_times_right" "_law_times_right" (defArgs s__law_times_right) (defBody s__law_times_right) (defScope s__law_times_right) .none kV41 dc41 pm41 an41 cd41 ct41), sl41⟩) (c41 : PySem.W.codeIn K cd41 "_law_times_right" = true) (k41 : PySem.W.keepIn K (.ref f41) = true)
    {f42 : Addr} {od42 an42 : Option Addr} {sl42 : Array (Option Value)} {oc42 kV42 dc42 pm42 cd42 ct42 : Value}
    (a42 : PySem.W.nsIn K mainGlobals "_law_right" = some (some (.ref f42))) (l42 : K.lookup f42 = some ⟨oc42, od42, .func (PySem.W.fnOf "_law_right" "_law_right" (defArgs s__law_right) (defBody s__law_right) (defScope s__law_right) .none kV42 dc42 pm42 an42 cd42 ct42), sl42⟩) (c42 : PySem.W.codeIn K cd42 "_law_right" = true) (k42 : PySem.W.keepIn K (.ref f42) = true)
    {f43 : Addr} {od43 an43 : Option Addr} {sl43 : Array (Option Value)} {oc43 kV43 dc43 pm43 cd43 ct43 : Value}
    (a43 : PySem.W.nsIn K mainGlobals "law" = some (some (.ref f43))) (l43 : K.lookup f43 = some ⟨oc43, od43, .func (PySem.W.fnOf "law" "law" (defArgs s_law) (defBody s_law) (defScope s_law) .none kV43 dc43 pm43 an43 cd43 ct43), sl43⟩) (c43 : PySem.W.codeIn K cd43 "law" = true) (k43 : PySem.W.keepIn K (.ref f43) = true)
    {cD : Addr} {fI cI cdI : Addr} {ocI clI cclI : Value} {odI cldI cddI anI : Option Addr} {kVI docI pmI ctI : Value} {oslI cslI ccsI : Array (Option Value)} {vsI : Array Value} {flI : Str} {tfI : Tok} {cdD : ClassData}
    (aW : PySem.W.nsIn K mainGlobals "WindowError" = some (some (.ref cD))) (iI : PySem.W.findIn K (.ref cD) "__init__" = some (some (.ref fI)))
    (lI : K.lookup fI = some ⟨ocI, odI, .func (PySem.W.fnX "__init__" "WindowError.__init__" (defArgs s_init) (defBody s_init) (defScope s_init) [("__class__", cI)] .none kVI docI pmI anI (.ref cdI) ctI), oslI⟩) (qI : PySem.W.codeIn K (.ref cdI) "WindowError.__init__" = true)
    (ceI : K.lookup cI = some ⟨clI, cldI, .cell (some (.ref cD)), cslI⟩) (fiI : K.lookup cdI = some ⟨cclI, cddI, .fields vsI, ccsI⟩) (viI : vsI[2]? = some (.str flI tfI)) (wiI : ((PR.main.file : Str) == flI) = true) (clD : PySem.W.clsIn K cD = some cdD) (suI : PySem.W.nsIn K mainGlobals "super" = some none)
    (opI : PySem.W.nsIn K cStatics "thirdparty.any" = some none) (tyI : PySem.W.typeIn K (.ref fI) = some (.type "function"))
    {e0 : Addr} {nme0 qe0 : Str} {Ne0 : Addr} {bse0 : List Value} {sne0 : List Str} {sube0 : List Value} {abe0 : Bool} {cole0 : Option Bool} {dde0 : Option Addr} {m0e0 m1e0 m2e0 m3e0 m5e0 : Option Value}
    (aCe0 : PySem.W.nsIn K mainGlobals "WindowError" = some (some (.ref e0))) (xLe0 : K.lookup e0 = some (excClassObj nme0 qe0 e0 Ne0 bse0 PySem.HandSPX.veTail true sne0 sube0 abe0 cole0 dde0 m0e0 m1e0 m2e0 m3e0 m5e0 "ValueError.__new__")) (rve0 : e0 = cD)
    (sae0 : PySem.W.findIn K (.ref e0) "__setattr__" = some (some (.builtin "object.__setattr__"))) (gae0 : PySem.W.findIn K (.ref e0) "__getattribute__" = some (some (.builtin "BaseException.__getattribute__"))) (gge0 : PySem.W.findIn K (.ref e0) "__getattr__" = some none) (nve0 : PySem.W.findIn K (.ref e0) "value" = some none) (ine0 : PySem.W.findIn K (.ref e0) "__init__" = some (some (.ref fI)))
    (kCe0 : PySem.W.keepIn K (.ref e0) = true) (eCe0 : PySem.W.subIn K (.ref e0) (.type "BaseException") = some true) (tCe0 : PySem.W.typeIn K (.ref e0) = some (.type "type")) (hCe0 : PySem.W.hasDictIn K e0 = true) (mre0 : PySem.W.mroIn K e0 (.ref cD) = some true) (ice0 : PySem.W.isClsIn K e0 = true) (sve0 : PySem.W.subIn K (.ref e0) (.type "ValueError") = some true)
    {e1 : Addr} {nme1 qe1 : Str} {Ne1 : Addr} {bse1 : List Value} {sne1 : List Str} {sube1 : List Value} {abe1 : Bool} {cole1 : Option Bool} {dde1 : Option Addr} {m0e1 m1e1 m2e1 m3e1 m5e1 : Option Value}
    (aCe1 : PySem.W.nsIn K mainGlobals "InvalidNumber" = some (some (.ref e1))) (xLe1 : K.lookup e1 = some (excClassObj nme1 qe1 e1 Ne1 bse1 (.ref cD :: PySem.HandSPX.veTail) true sne1 sube1 abe1 cole1 dde1 m0e1 m1e1 m2e1 m3e1 m5e1 "ValueError.__new__")) (rve1 : (e1 == cD) = false)
    (sae1 : PySem.W.findIn K (.ref e1) "__setattr__" = some (some (.builtin "object.__setattr__"))) (gae1 : PySem.W.findIn K (.ref e1) "__getattribute__" = some (some (.builtin "BaseException.__getattribute__"))) (gge1 : PySem.W.findIn K (.ref e1) "__getattr__" = some none) (nve1 : PySem.W.findIn K (.ref e1) "value" = some none) (ine1 : PySem.W.findIn K (.ref e1) "__init__" = some (some (.ref fI)))
    (kCe1 : PySem.W.keepIn K (.ref e1) = true) (eCe1 : PySem.W.subIn K (.ref e1) (.type "BaseException") = some true) (tCe1 : PySem.W.typeIn K (.ref e1) = some (.type "type")) (hCe1 : PySem.W.hasDictIn K e1 = true) (mre1 : PySem.W.mroIn K e1 (.ref cD) = some true) (ice1 : PySem.W.isClsIn K e1 = true) (sve1 : PySem.W.subIn K (.ref e1) (.type "ValueError") = some true)
    {e2 : Addr} {nme2 qe2 : Str} {Ne2 : Addr} {bse2 : List Value} {sne2 : List Str} {sube2 : List Value} {abe2 : Bool} {cole2 : Option Bool} {dde2 : Option Addr} {m0e2 m1e2 m2e2 m3e2 m5e2 : Option Value}
    (aCe2 : PySem.W.nsIn K mainGlobals "InvalidColumn" = some (some (.ref e2))) (xLe2 : K.lookup e2 = some (excClassObj nme2 qe2 e2 Ne2 bse2 (.ref cD :: PySem.HandSPX.veTail) true sne2 sube2 abe2 cole2 dde2 m0e2 m1e2 m2e2 m3e2 m5e2 "ValueError.__new__")) (rve2 : (e2 == cD) = false)
    (sae2 : PySem.W.findIn K (.ref e2) "__setattr__" = some (some (.builtin "object.__setattr__"))) (gae2 : PySem.W.findIn K (.ref e2) "__getattribute__" = some (some (.builtin "BaseException.__getattribute__"))) (gge2 : PySem.W.findIn K (.ref e2) "__getattr__" = some none) (nve2 : PySem.W.findIn K (.ref e2) "value" = some none) (ine2 : PySem.W.findIn K (.ref e2) "__init__" = some (some (.ref fI)))
    (kCe2 : PySem.W.keepIn K (.ref e2) = true) (eCe2 : PySem.W.subIn K (.ref e2) (.type "BaseException") = some true) (tCe2 : PySem.W.typeIn K (.ref e2) = some (.type "type")) (hCe2 : PySem.W.hasDictIn K e2 = true) (mre2 : PySem.W.mroIn K e2 (.ref cD) = some true) (ice2 : PySem.W.isClsIn K e2 = true) (sve2 : PySem.W.subIn K (.ref e2) (.type "ValueError") = some true)
    {e3 : Addr} {nme3 qe3 : Str} {Ne3 : Addr} {bse3 : List Value} {sne3 : List Str} {sube3 : List Value} {abe3 : Bool} {cole3 : Option Bool} {dde3 : Option Addr} {m0e3 m1e3 m2e3 m3e3 m5e3 : Option Value}
    (aCe3 : PySem.W.nsIn K mainGlobals "InvalidSorting" = some (some (.ref e3))) (xLe3 : K.lookup e3 = some (excClassObj nme3 qe3 e3 Ne3 bse3 (.ref cD :: PySem.HandSPX.veTail) true sne3 sube3 abe3 cole3 dde3 m0e3 m1e3 m2e3 m3e3 m5e3 "ValueError.__new__")) (rve3 : (e3 == cD) = false)
    (sae3 : PySem.W.findIn K (.ref e3) "__setattr__" = some (some (.builtin "object.__setattr__"))) (gae3 : PySem.W.findIn K (.ref e3) "__getattribute__" = some (some (.builtin "BaseException.__getattribute__"))) (gge3 : PySem.W.findIn K (.ref e3) "__getattr__" = some none) (nve3 : PySem.W.findIn K (.ref e3) "value" = some none) (ine3 : PySem.W.findIn K (.ref e3) "__init__" = some (some (.ref fI)))
    (kCe3 : PySem.W.keepIn K (.ref e3) = true) (eCe3 : PySem.W.subIn K (.ref e3) (.type "BaseException") = some true) (tCe3 : PySem.W.typeIn K (.ref e3) = some (.type "type")) (hCe3 : PySem.W.hasDictIn K e3 = true) (mre3 : PySem.W.mroIn K e3 (.ref cD) = some true) (ice3 : PySem.W.isClsIn K e3 = true) (sve3 : PySem.W.subIn K (.ref e3) (.type "ValueError") = some true)
    (z_all : PySem.W.nsIn K mainGlobals "all" = some none)
    (z_len : PySem.W.nsIn K mainGlobals "len" = some none)
    (z_set : PySem.W.nsIn K mainGlobals "set" = some none)
    (z_list : PySem.W.nsIn K mainGlobals "list" = some none)
    (z_range : PySem.W.nsIn K mainGlobals "range" = some none)
    (z_min : PySem.W.nsIn K mainGlobals "min" = some none)
    (z_sum : PySem.W.nsIn K mainGlobals "sum" = some none)
    (z_sorted : PySem.W.nsIn K mainGlobals "sorted" = some none)
    (z_max : PySem.W.nsIn K mainGlobals "max" = some none)
    (z_int : PySem.W.nsIn K mainGlobals "int" = some none)
    (z_abs : PySem.W.nsIn K mainGlobals "abs" = some none)
    (z_repr : PySem.W.nsIn K mainGlobals "repr" = some none)
    : ∃ T : Txt K mg, T.d_law = PySem.W.fnOf "law" "law" (defArgs s_law) (defBody s_law) (defScope s_law) .none kV43 dc43 pm43 an43 cd43 ct43 ∧ T.a_law = f43 :=
  ⟨⟨f0, _, fun_mk (st := s_need_column) l0 c0 k0, PySem.W.mg_of X G a0, f1, _, fun_mk (st := s_are_keys) l1 c1 k1, PySem.W.mg_of X G a1, f2, _, fun_mk (st := s_is_sorting_of) l2 c2 k2, PySem.W.mg_of X G a2, f3, _, fun_mk (st := s_need_sorting) l3 c3 k3, PySem.W.mg_of X G a3, f4, _, fun_mk (st := s_after_click) l4 c4 k4, PySem.W.mg_of X G a4, f5, _, fun_mk (st := s_need_width) l5 c5 k5, PySem.W.mg_of X G a5, f6, _, fun_mk (st := s_need_keys) l6 c6 k6, PySem.W.mg_of X G a6, f7, _, fun_mk (st := s_all_sortings) l7 c7 k7, PySem.W.mg_of X G a7, f8, _, fun_mk (st := s_after_clicks) l8 c8 k8, PySem.W.mg_of X G a8, f9, _, fun_mk (st := s_has_form) l9 c9 k9, PySem.W.mg_of X G a9, f10, _, fun_mk (st := s_need_form) l10 c10 k10, PySem.W.mg_of X G a10, f11, _, fun_mk (st := s_columns_of) l11 c11 k11, PySem.W.mg_of X G a11, f12, _, fun_mk (st := s_is_left_alone) l12 c12 k12, PySem.W.mg_of X G a12, f13, _, fun_mk (st := s_made_form) l13 c13 k13, PySem.W.mg_of X G a13, f14, _, fun_mk (st := s_form_of) l14 c14 k14, PySem.W.mg_of X G a14, f15, _, fun_mk (st := s_made_of) l15 c15 k15, PySem.W.mg_of X G a15, f16, _, fun_mk (st := s_formed) l16 c16 k16, PySem.W.mg_of X G a16, f17, _, fun_mk (st := s_joined_form) l17 c17 k17, PySem.W.mg_of X G a17, f18, _, fun_mk (st := s_joined) l18 c18 k18, PySem.W.mg_of X G a18, f19, _, fun_mk (st := s_shortest_clicks) l19 c19 k19, PySem.W.mg_of X G a19, f20, _, fun_mk (st := s_clicks_for) l20 c20 k20, PySem.W.mg_of X G a20, f21, _, fun_mk (st := s_choices) l21 c21 k21, PySem.W.mg_of X G a21, f22, _, fun_mk (st := s_number_of_forms) l22 c22 k22, PySem.W.mg_of X G a22, f23, _, fun_mk (st := s_repeated) l23 c23 k23, PySem.W.mg_of X G a23, f24, _, fun_mk (st := s_number_made) l24 c24 k24, PySem.W.mg_of X G a24, f25, _, fun_mk (st := s_all_forms) l25 c25 k25, PySem.W.mg_of X G a25, f26, _, fun_mk (st := s_forms_between) l26 c26 k26, PySem.W.mg_of X G a26, f27, _, fun_mk (st := s__law_open) l27 c27 k27, PySem.W.mg_of X G a27, f28, _, fun_mk (st := s__law_draw) l28 c28 k28, PySem.W.mg_of X G a28, f29, _, fun_mk (st := s__law_large) l29 c29 k29, PySem.W.mg_of X G a29, f30, _, fun_mk (st := s__law_clicks) l30 c30 k30, PySem.W.mg_of X G a30, f31, _, fun_mk (st := s__law_click) l31 c31 k31, PySem.W.mg_of X G a31, f32, _, fun_mk (st := s__law_after) l32 c32 k32, PySem.W.mg_of X G a32, f33, _, fun_mk (st := s__law_keys) l33 c33 k33, PySem.W.mg_of X G a33, f34, _, fun_mk (st := s__law_every) l34 c34 k34, PySem.W.mg_of X G a34, f35, _, fun_mk (st := s__law_lists) l35 c35 k35, PySem.W.mg_of X G a35, f36, _, fun_mk (st := s__law_first) l36 c36 k36, PySem.W.mg_of X G a36, f37, _, fun_mk (st := s__law_short) l37 c37 k37, PySem.W.mg_of X G a37, f38, _, fun_mk (st := s__law_great_right) l38 c38 k38, PySem.W.mg_of X G a38, f39, _, fun_mk (st := s__law_counts_right) l39 c39 k39, PySem.W.mg_of X G a39, f40, _, fun_mk (st := s__law_between_right) l40 c40 k40, PySem.W.mg_of X G a40, f41, _, fun_mk (st := s__law_times_right) l41 c41 k41, PySem.W.mg_of X G a41, f42, _, fun_mk (st := s__law_right) l42 c42 k42, PySem.W.mg_of X G a42, f43, _, fun_mk (st := s_law) l43 c43 k43, PySem.W.mg_of X G a43, fI, cI, cdI, cD, _, ⟨⟨_, _, _, _, _, _, _, _, rfl, lI⟩, qI, ⟨_, _, _, ceI⟩, ⟨_, _, _, _, _, _, fiI, viI, wiI⟩, ⟨_, clD⟩, PySem.W.mg_none_of X G suI, by rfl, opI⟩, e0, ⟨⟨⟨_, _, _, _, _, _, _, _, _, _, _, _, _, _, _, xLe0, rfl⟩, sae0, eCe0, tCe0, kCe0⟩, ine0, tyI, nve0, mre0, sup_self xLe0 rve0, sve0, ⟨gae0, gge0, eCe0, hCe0⟩⟩, PySem.W.mg_of X G aCe0, e1, ⟨⟨⟨_, _, _, _, _, _, _, _, _, _, _, _, _, _, _, xLe1, rfl⟩, sae1, eCe1, tCe1, kCe1⟩, ine1, tyI, nve1, mre1, sup_child xLe1 rve1, sve1, ⟨gae1, gge1, eCe1, hCe1⟩⟩, PySem.W.mg_of X G aCe1, e2, ⟨⟨⟨_, _, _, _, _, _, _, _, _, _, _, _, _, _, _, xLe2, rfl⟩, sae2, eCe2, tCe2, kCe2⟩, ine2, tyI, nve2, mre2, sup_child xLe2 rve2, sve2, ⟨gae2, gge2, eCe2, hCe2⟩⟩, PySem.W.mg_of X G aCe2, e3, ⟨⟨⟨_, _, _, _, _, _, _, _, _, _, _, _, _, _, _, xLe3, rfl⟩, sae3, eCe3, tCe3, kCe3⟩, ine3, tyI, nve3, mre3, sup_child xLe3 rve3, sve3, ⟨gae3, gge3, eCe3, hCe3⟩⟩, PySem.W.mg_of X G aCe3, PySem.W.mg_none_of X G z_all, PySem.W.mg_none_of X G z_len, PySem.W.mg_none_of X G z_set, PySem.W.mg_none_of X G z_list, PySem.W.mg_none_of X G z_range, PySem.W.mg_none_of X G z_min, PySem.W.mg_none_of X G z_sum, PySem.W.mg_none_of X G z_sorted, PySem.W.mg_none_of X G z_max, PySem.W.mg_none_of X G z_int, PySem.W.mg_none_of X G z_abs, PySem.W.mg_none_of X G z_repr⟩, rfl, rfl⟩
theorem walk {l : PySem.W.OpenLaw} {q : Program} {loose : List Str} {XP : (Str → Option Value) → Heap → Prop} {YP : World → Heap → Prop} {d : DefRec} {K : Params → PySem.W.Frag} (hn : l.most = some 63) (hdf : d.params.defaults = [])
    (hY : ∀ (w : World) (h : Heap), YP w h → (K w.params).In h)
    (F : ∀ (w : World) (mg : Str → Option Value) (fa : Addr) (h : Heap), (K w.params).In h → h.Ns mainGlobals mg → mg d.name = some (.ref fa) →
      ∃ fd : FuncData, (∀ (s : Shared) (u : Value), BindsTo s fd ⟨[u], []⟩ [("_law_script", u)]) ∧ ∀ base : Heap, (K w.params).In base → base.Ns mainGlobals mg → FnOkG l.prog w (K w.params) mg base CX0 7 fa fd ["_law_script"] (sp_law (K w.params))) :
    PySem.W.WalkO q loose XP YP l.row.toRowW d [] (fun f vs => PySem.call f vs) :=
  My.walk_ofG (n := 63) (k := 7) (x := "_law_script") (CX := fun _ => CX0) (sp := fun w => sp_law (K w.params)) hn (by decide) hdf ⟨rfl, by decide, by decide⟩ hY F (fun _ _ a ns hl _ hS => ⟨a, ns, rfl, hS, hl, fun _ => rfl⟩) fun _ _ _ _ _ z => z
end K10
open PySem PySem.W PyProof.Rows
set_option maxRecDepth 100000 in
set_option maxHeartbeats 0 in
theorem PySem.Challenge.cw_listwindow_k10_forms_joined_and_counted_holds : PySem.Challenge.rw_listwindow_k10_forms_joined_and_counted.Holds := by
  w_on; o_law; k_head; (case hw => w_witness2)
  k_fill
  refine K10.walk (l := PySem.Challenge.rw_listwindow_k10_forms_joined_and_counted) rfl rfl (fun w h Y => PySem.W.kIn_of Y) ?F
  case F =>
    intro w mg fa h KX G hmg
    have T : ∃ T : K10.Txt _ mg, _ ∧ _ := K10.all_mk KX G (by k_is) (by k_is) (by k_is) (by k_is) (by k_is) (by k_is) (by k_is) (by k_is) (by k_is) (by k_is) (by k_is) (by k_is) (by k_is) (by k_is) (by k_is) (by k_is) (by k_is) (by k_is) (by k_is) (by k_is) (by k_is) (by k_is) (by k_is) (by k_is) (by k_is) (by k_is) (by k_is) (by k_is) (by k_is) (by k_is) (by k_is) (by k_is) (by k_is) (by k_is) (by k_is) (by k_is) (by k_is) (by k_is) (by k_is) (by k_is) (by k_is) (by k_is) (by k_is) (by k_is) (by k_is) (by k_is) (by k_is) (by k_is) (by k_is) (by k_is) (by k_is) (by k_is) (by k_is) (by k_is) (by k_is) (by k_is) (by k_is) (by k_is) (by k_is) (by k_is) (by k_is) (by k_is) (by k_is) (by k_is) (by k_is) (by k_is) (by k_is) (by k_is) (by k_is) (by k_is) (by k_is) (by k_is) (by k_is) (by k_is) (by k_is) (by k_is) (by k_is) (by k_is) (by k_is) (by k_is) (by k_is) (by k_is) (by k_is) (by k_is) (by k_is) (by k_is) (by k_is) (by k_is) (by k_is) (by k_is) (by k_is) (by k_is) (by k_is) (by k_is) (by k_is) (by k_is) (by k_is) (by k_is) (by k_is) (by k_is) (by k_is) (by k_is) (by k_is) (by k_is) (by k_is) (by k_is) (by k_is) (by k_is) (by k_is) (by k_is) (by k_is) (by k_is) (by k_is) (by k_is) (by k_is) (by k_is) (by k_is) (by k_is) (by k_is) (by k_is) (by k_is) (by k_is) (by k_is) (by k_is) (by k_is) (by k_is) (by k_is) (by k_is) (by k_is) (by k_is) (by k_is) (by k_is) (by k_is) (by k_is) (by k_is) (by k_is) (by k_is) (by k_is) (by k_is) (by k_is) (by k_is) (by k_is) (by k_is) (by k_is) (by k_is) (by k_is) (by k_is) (by k_is) (by k_is) (by k_is) (by k_is) (by k_is) (by k_is) (by k_is) (by k_is) (by k_is) (by k_is) (by k_is) (by k_is) (by k_is) (by k_is) (by k_is) (by k_is) (by k_is) (by k_is) (by k_is) (by k_is) (by k_is) (by k_is) (by k_is) (by k_is) (by k_is) (by k_is) (by k_is) (by k_is) (by k_is) (by k_is) (by k_is) (by k_is) (by k_is) (by k_is) (by k_is) (by rfl) (by decide +kernel) (by k_is) (by k_is) (by k_is) (by k_is) (by k_is) (by k_is) (by rfl) (by k_is) (by k_is) (by k_is) (by k_is) (by k_is) (by k_is) (by k_is) (by k_is) (by k_is) (by k_is) (by k_is) (by k_is) (by k_is) (by k_is) (by rfl) (by k_is) (by k_is) (by k_is) (by k_is) (by k_is) (by k_is) (by k_is) (by k_is) (by k_is) (by k_is) (by k_is) (by k_is) (by k_is) (by k_is) (by rfl) (by k_is) (by k_is) (by k_is) (by k_is) (by k_is) (by k_is) (by k_is) (by k_is) (by k_is) (by k_is) (by k_is) (by k_is) (by k_is) (by k_is) (by rfl) (by k_is) (by k_is) (by k_is) (by k_is) (by k_is) (by k_is) (by k_is) (by k_is) (by k_is) (by k_is) (by k_is) (by k_is) (by k_is) (by k_is) (by k_is) (by k_is) (by k_is) (by k_is) (by k_is) (by k_is) (by k_is) (by k_is) (by k_is) (by k_is)
    obtain ⟨T, e1, e2⟩ := T
    have e3 := hmg.symm.trans T.g_law
    cases e3
    exact ⟨T.d_law, fun s v => by rw [e1]; exact .of_eq rfl, fun base _ _ => K10.ok_law T⟩
#print axioms PySem.Challenge.cw_listwindow_k10_forms_joined_and_counted_holds

