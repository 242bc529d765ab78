import PyProof.Rows.All
import Wide.All
import OpenK.AllK
import Wide.FinOn
import HandS.ForMost
import HandS.Wide
import HandS.Style
import HandS.SortInts
import HandS.IsInst
import HandS.Evl
import HandS.Walk
import HandS.ForExc
import HandS.ExcInit
import HandS.ExcField
import HandS.ExcSuper
import HandS.Nested
import KE.KExcSuper
import HandS.Zip
import HandS.Sort
import PyProof.ReprRoads
import HandS.DictTup
import HandS.Set
import HandS.Dict
import HandS.DictComp
import HandS.NoneIn
import HandS.Conv
import HandS.OwnEq
import HandS.Property
import KE.SortKeyed
import HandS.SortOrd
import HandS.SetFor
import HandS.Strs
import HandS.Star
import KE.SortData
import KE.GoesEnum
import KE.KDictKeyed
import KE.KDictDisplayH
import HandS.TupLen
import KE.KDictPairs
import HandS.TupMul
import HandS.TupAny
import KE.DataCmp
import PySem.Challenge.RW_listwindow_k31_covers_and_makers
set_option Elab.async false
set_option linter.all false
set_option maxRecDepth 100000
set_option maxHeartbeats 4000000
/-! My own rules over the hand layer: calls by keywords alone, powers of great ints, what a heap keeps. -/
namespace My
open PySem PySem.Spec PyProof.Rows L2
/-! ### calls by keywords -/
def kg (n m : Nat) (π : List Nat) {α : Type} (us ws : List α) : List α := if us.length = n ∧ ws.length = m then π.filterMap (fun i => (us ++ ws)[i]?) else []
theorem vals_pick {xs : List V} {us : List Value} (r : Vals xs us) : ∀ (π : List Nat), Vals (π.filterMap (fun i => xs[i]?)) (π.filterMap (fun i => us[i]?))
  | [] => .nil
  | i :: π => by
    have ih := vals_pick r π
    cases e : xs[i]? with
    | none =>
      rw [List.filterMap_cons, e, List.filterMap_cons, r.none_of e]
      exact ih
    | some x =>
      obtain ⟨u, h1, h2⟩ := r.get e
      rw [List.filterMap_cons, e, List.filterMap_cons, h1]
      exact .cons h2 ih
theorem kg_rel {n m : Nat} {π : List Nat} {vs zs : List V} {us ws : List Value} (r : Vals vs us) (rz : Vals zs ws) : Vals (kg n m π vs zs) (kg n m π us ws) := by
  unfold kg
  rw [r.length, rz.length]
  split
  · exact vals_pick (r.append rz) π
  · exact .nil
theorem kbinds {K : PySem.W.Frag} {x qual : Str} {st : Stmt} {f : Addr} {fd : FuncData} {ps ks : List Str} (n m : Nat) (π : List Nat) (F : Fun K x qual st f fd) (hp : 0 < ps.length)
    (h : ∀ (kV doc pm : Value) (an : Option Addr) (cdv ct : Value) (us ws : List Value), us.length = n → ws.length = m → bindArgs (PySem.W.fnOf x qual (defArgs st) (defBody st) (defScope st) .none kV doc pm an cdv ct) ⟨us, ks.zip ws⟩ = pure (ps.zip (kg n m π us ws))) : KBinds K fd ps ks (kg n m π) (kg n m π) := by
  obtain ⟨oc, od, kV, doc, pm, an, cdv, ct, osl, rfl, lk, hcd⟩ := F.ex
  refine ⟨fun s us ws _ hl => ?_, fun r rz => kg_rel r rz⟩
  by_cases z : us.length = n ∧ ws.length = m
  · exact .of_eq (h kV doc pm an cdv ct us ws z.1 z.2)
  · unfold kg at hl
    rw [if_neg z] at hl
    rw [← hl] at hp
    exact absurd hp (Nat.lt_irrefl _)
section
variable {X : Cx} {CX : CXT} {k : Nat} {f C : Addr} {fd : FuncData} {ps ks : List Str} {sp : Sp} {E : XK} {x m : Str} {p pos apos kpos : Pos} {kws : List Keyword} {tk : TA} {g : List Value → List Value → List Value} {gV : List V → List V → List V}
/-- f(k = v, ..) -/
theorem pe_callK0 (F : FnOk X.prog X.w X.K X.mg X.base CX k f fd ps sp) (hr : Room k X.A) (hg : Gl X x) (hm : X.mg x = some (.ref f)) (hk : PySem.W.keepIn X.K (.ref f) = true) (hb : KBinds X.K fd ps ks g gV) (hx : Passes CX X E)
    (hkw : PK X kws tk) (hall : (backToKw pos (keywordEach kws X.env)).all (·.1.isSome) = true := by rfl) (hks : (backToKw pos (keywordEach kws X.env)).filterMap (·.1) = ks := by rfl)
    (hdb : (x == ("__debug__" : Str)) = false := by decide)
    (hpl : ((backTo pos (starEach [] X.env)).any (·.1) || (backToKw pos (keywordEach kws X.env)).any (·.1.isNone)) = false := by rfl) :
    PE X (.Call (.Name x p) [] kws pos) (tCallK sp gV E tNil tk) := by
  refine ⟨fun pins s σ H Q I h => ?_⟩
  refine wpAny_Call_Name_kw (ld_glob I hg hm ?_ hdb)
  refine PySem.W.callWith_KW0 (h₀ := X.base) I.ok.mod.kin hk hall ?_ hpl
  refine thn (hkw.run pos pins s σ H _ I h) fun ws s2 ⟨zs, H2, I2, rz, q2⟩ => ⟨I2.kIn, ?_⟩
  rw [hks]
  exact run_fnk (us := []) (vs := []) F hr hb hx I2 .nil rz q2
end
/-! ### powers of great ints -/
/-- a power of together at most 2 ^ 27 bits -/
def CPowW (i j : Int) : Prop := 0 ≤ j ∧ ((i.natAbs.log2 : Int) + 1) * j ≤ 2 ^ 27
theorem bits_le (x : Int) : (Builtin.Int.intBits x : Int) ≤ (x.natAbs.log2 : Int) + 1 := by
  unfold Builtin.Int.intBits
  split <;> omega
theorem op_powW {X : Cx} : OpR X (binaryOp .Pow) (rI CPowW fun i j => .int (i ^ j.toNat)) := opI fun i j _ _ _ _ _ hc q =>
  pow_int hc.1 (Int.le_trans (Int.mul_le_mul_of_nonneg_right (bits_le i) hc.1) hc.2) q
theorem powW_of {i : Int} {j : Nat} {a : Nat} (h : i.natAbs < 2 ^ a) (h0 : 0 < a) (hj : a * j ≤ 2 ^ 27) : CPowW i (j : Int) := by
  have := PySem.Flt.log2_lt_of h0 h
  refine ⟨Int.natCast_nonneg _, ?_⟩
  have e : ((i.natAbs.log2 : Int) + 1) * (j : Int) = (((i.natAbs.log2 + 1) * j : Nat) : Int) := by
    rw [Int.natCast_mul]
    rfl
  rw [e]
  have : (i.natAbs.log2 + 1) * j ≤ a * j := Nat.mul_le_mul_right _ this
  have : (i.natAbs.log2 + 1) * j ≤ 2 ^ 27 := Nat.le_trans this hj
  omega
/-! ### heaps -/
abbrev Ex := Evl.Ex
/-- all but the object at j is as it was -/
def Exj (j : Addr) (H H' : Hp) : Prop := ∀ b o, b ≠ j → H b = some o → H' b = some o
theorem Exj.refl (j : Addr) (H : Hp) : Exj j H H := fun _ _ _ h => h
theorem Exj.trans {j : Addr} {H H1 H2 : Hp} (a : Exj j H H1) (b : Exj j H1 H2) : Exj j H H2 := fun x o n h => b x o n (a x o n h)
theorem Exj.of {j : Addr} {H H' : Hp} (a : Ex H H') : Exj j H H' := fun x o _ h => a x o h
theorem Exj.upd {j : Addr} {H H' : Hp} {o : HO} (a : Exj j H H') : Exj j H (upd H' j o) := fun x u n h => by
  rw [upd_ne n]
  exact a x u n h
theorem Exj.new {j p : Addr} {H H' : Hp} {o : HO} (a : Exj j H H') (h : H' p = none) : Exj j H (L2.upd H' p o) := fun x u n e => by
  have := a x u n e
  rw [upd_ne (ne_of_none this h)]
  exact this
theorem Exj.sq {K : PySem.W.Frag} {j : Addr} {H H' : Hp} {a : Addr} {xs : List V} (e : Exj j H H') (n : a ≠ j) (h : SqL K H a xs) : SqL K H' a xs := by
  rcases h with (h | ⟨o, h⟩) | h
  · exact .inl (.inl (e _ _ n h))
  · exact .inl (.inr ⟨o, e _ _ n h⟩)
  · exact .inr h
/-- a new object, its heap by name -/
theorem newO {H : Hp} {o : HO} {P : V → Hp → Prop} (k : ∀ p H', H p = none → Ex H H' → H' p = some o → P (.ref p) H') : ∀ p, H p = none → P (.ref p) (L2.upd H p o) := fun p hp => k p _ hp (Evl.Ex.new hp) upd_same
theorem sqI {K : PySem.W.Frag} {H : Hp} {a : Addr} {xs : List V} (h : H a = some (.lst xs)) : SqL K H a xs := .inl (.inl h)
theorem sqT {K : PySem.W.Frag} {H : Hp} {a : Addr} {xs : List V} (h : H a = some (.tup xs)) : SqT K H a xs := .inl (.inl h)
/-! ### data: how a thing of Lean stands in the heap -/
/-- a way of writing things as data: it can be laid, it is no deeper than n, equal data are equal things -/
structure Good {α : Type} [DecidableEq α] (e : α → PyData) (n : Nat) : Prop where
  lay : ∀ x, (e x).canLay0 = true
  dep : ∀ x, (e x).depth ≤ n
  eqv : ∀ x y, PyData.eqv (e x) (e y) = decide (x = y)
def eL {α : Type} (e : α → PyData) (xs : List α) : PyData := .list (xs.map e)
def eT {α : Type} (e : α → PyData) (xs : List α) : PyData := .tuple (xs.map e)
def eP {α β : Type} (e : α → PyData) (f : β → PyData) (p : α × β) : PyData := .tuple [e p.1, f p.2]
theorem goodI : Good PyData.int 0 := ⟨fun _ => rfl, fun _ => Nat.le_refl _, fun x y => by
  show (x == y) = _
  rw [Bool.eq_iff_iff]
  simp⟩
theorem goodB : Good PyData.bool 0 := ⟨fun _ => rfl, fun _ => Nat.le_refl _, fun x y => by
  show (x == y) = _
  rw [Bool.eq_iff_iff]
  simp⟩
section
variable {α β : Type} [DecidableEq α] [DecidableEq β] {e : α → PyData} {f : β → PyData} {n m : Nat}
theorem Good.layAll (g : Good e n) : ∀ xs : List α, PyData.canLayAll0 (xs.map e) = true
  | [] => rfl
  | x :: xs => by
    show (PyData.canLay0 (e x) && PyData.canLayAll0 (xs.map e)) = true
    rw [g.layAll xs, g.lay x]
    rfl
theorem Good.depAll (g : Good e n) : ∀ xs : List α, PyData.depthAll (xs.map e) ≤ n
  | [] => Nat.zero_le _
  | x :: xs => by
    show max (PyData.depth (e x)) (PyData.depthAll (xs.map e)) ≤ n
    exact Nat.max_le.mpr ⟨g.dep x, g.depAll xs⟩
theorem Good.eqvAll (g : Good e n) : ∀ xs ys : List α, PyData.eqvAll (xs.map e) (ys.map e) = decide (xs = ys)
  | [], [] => rfl
  | [], _ :: _ => rfl
  | _ :: _, [] => rfl
  | x :: xs, y :: ys => by
    show (PyData.eqv (e x) (e y) && PyData.eqvAll (xs.map e) (ys.map e)) = _
    rw [g.eqvAll xs ys, g.eqv, Bool.eq_iff_iff]
    simp
theorem goodL (g : Good e n) : Good (eL e) (n + 1) := ⟨fun xs => g.layAll xs, fun xs => by
  show PyData.depthAll (xs.map e) + 1 ≤ n + 1
  have := g.depAll xs
  omega, fun xs ys => g.eqvAll xs ys⟩
theorem goodT (g : Good e n) : Good (eT e) (n + 1) := ⟨fun xs => g.layAll xs, fun xs => by
  show PyData.depthAll (xs.map e) + 1 ≤ n + 1
  have := g.depAll xs
  omega, fun xs ys => g.eqvAll xs ys⟩
theorem goodP (g : Good e n) (k : Good f n) : Good (eP e f) (n + 1) := ⟨fun p => by
    show (PyData.canLay0 (e p.1) && (PyData.canLay0 (f p.2) && true)) = true
    rw [g.lay, k.lay]
    rfl, fun p => by
    show max (PyData.depth (e p.1)) (max (PyData.depth (f p.2)) 0) + 1 ≤ n + 1
    have h1 := g.dep p.1
    have h2 := k.dep p.2
    have : max (PyData.depth (e p.1)) (max (PyData.depth (f p.2)) 0) ≤ n := Nat.max_le.mpr ⟨h1, Nat.max_le.mpr ⟨h2, Nat.zero_le _⟩⟩
    omega, fun p q => by
    show (PyData.eqv (e p.1) (e q.1) && (PyData.eqv (f p.2) (f q.2) && true)) = _
    rw [g.eqv, k.eqv, Bool.eq_iff_iff]
    obtain ⟨a, b⟩ := p
    obtain ⟨c, d⟩ := q
    simp⟩
theorem Good.shaped (g : Good e n) (h : n ≤ 64) (x : α) : SeqAt.shaped (e x) = true := by
  unfold SeqAt.shaped
  rw [g.lay x, decide_eq_true (Nat.le_trans (g.dep x) h)]
  rfl
/-- two things compared -/
theorem eqE {K : PySem.W.Frag} {H : Hp} {v u : V} {x y : α} {Q : VK} (g : Good e n) (hn : n ≤ 64) (h1 : Dp K H v (e x)) (h2 : Dp K H u (e y)) (q : Q (.bl (decide (x = y))) H) : rEqD K v u H Q :=
  ⟨_, _, h1, h2, g.shaped hn x, g.shaped hn y, by rw [g.eqv]; exact q⟩
theorem neE {K : PySem.W.Frag} {H : Hp} {v u : V} {x y : α} {Q : VK} (g : Good e n) (hn : n ≤ 64) (h1 : Dp K H v (e x)) (h2 : Dp K H u (e y)) (q : Q (.bl (!decide (x = y))) H) : rNeD K v u H Q :=
  ⟨_, _, h1, h2, g.shaped hn x, g.shaped hn y, by rw [g.eqv]; exact q⟩
end
theorem dpI {K : PySem.W.Frag} {H : Hp} : ∀ (ns : List Int), DpAll K H (ns.map V.int) (ns.map PyData.int)
  | [] => .nil
  | n :: ns => .cons (.int n) (dpI ns)
/-- a list of ints -/
theorem dpL {K : PySem.W.Frag} {H : Hp} {a : Addr} {ns : List Int} (h : SqL K H a (ns.map V.int)) : Dp K H (.ref a) (eL PyData.int ns) := .lst h (dpI ns)
theorem dpT {K : PySem.W.Frag} {H : Hp} {a : Addr} {ns : List Int} (h : SqT K H a (ns.map V.int)) : Dp K H (.ref a) (eT PyData.int ns) := .tup h (dpI ns)
/-- lists of ints compared -/
theorem eqI_ {K : PySem.W.Frag} {H : Hp} {a b : Addr} {xs ys : List Int} {Q : VK} (h1 : SqL K H a (xs.map V.int)) (h2 : SqL K H b (ys.map V.int)) (q : Q (.bl (decide (xs = ys))) H) : rEqD K (.ref a) (.ref b) H Q := eqE (goodL goodI) (by decide) (dpL h1) (dpL h2) q
theorem neI_ {K : PySem.W.Frag} {H : Hp} {a b : Addr} {xs ys : List Int} {Q : VK} (h1 : SqL K H a (xs.map V.int)) (h2 : SqL K H b (ys.map V.int)) (q : Q (.bl (!decide (xs = ys))) H) : rNeD K (.ref a) (.ref b) H Q := neE (goodL goodI) (by decide) (dpL h1) (dpL h2) q
/-! ### new objects, the heap behind them by a letter -/
section
variable {X : Cx} {es : List Expr} {t : TA} {pos : Pos}
theorem pe_weak {e : Expr} {t t' : TE} (h : PE X e t) (w : ∀ σ H Q, t' σ H Q → t σ H Q) : PE X e t' := ⟨fun pins s σ H Q I q => h.run pins s σ H Q I (w σ H Q q)⟩
def tCutA (t : TA) : TA := fun σ H Q => ∃ M : List V → Hp → Prop, t σ H M ∧ ∀ vs H', M vs H' → Q vs H'
theorem pa_cut (h : PA X es t) : PA X es (tCutA t) := ⟨fun pos pins s σ H Q I ⟨M, hm, hq⟩ => thn (h.run pos pins s σ H M I hm) fun us s1 ⟨xs, H1, I1, r, q⟩ => ⟨xs, H1, I1, r, hq xs H1 q⟩⟩
/-- a new thing o, at any free place of any heap that keeps H -/
def New (o : HO) (H : Hp) (Q : VK) : Prop := ∀ p H', H p = none → Ex H H' → H' p = some o → Q (.ref p) H'
theorem New.go {o : HO} {H : Hp} {Q : VK} (k : New o H Q) (p : Addr) (hp : H p = none) : Q (.ref p) (upd H p o) := k p _ hp (Evl.Ex.new hp) upd_same
def tLstG (t : TA) : TE := fun σ H Q => t σ H fun xs H1 => xs.length ≤ sizeLine ∧ New (.lst xs) H1 Q
def tTupG (t : TA) : TE := fun σ H Q => t σ H fun xs H1 => xs.length ≤ sizeLine ∧ New (.tup xs) H1 Q
theorem pe_lstG (h : PA X es t) : PE X (.List es pos) (tLstG t) := pe_weak (pe_lst (pa_cut h)) fun σ H Q q => ⟨_, q, fun _ _ z => ⟨z.1, fun p hp => z.2.go p hp⟩⟩
theorem pe_tupG {x1} (h : PA X es t) : PE X (.Tuple es x1 pos) (tTupG t) := pe_weak (pe_tup (pa_cut h)) fun σ H Q q => ⟨_, q, fun _ _ z => ⟨z.1, fun p hp => z.2.go p hp⟩⟩
def rCatG : R2 := fun x y H Q => ∃ l b xs zs, x = .ref l ∧ y = .ref b ∧ H l = some (.lst xs) ∧ H b = some (.lst zs) ∧ xs.length + zs.length ≤ sizeLine ∧ New (.lst (xs ++ zs)) H Q
theorem op_catG : OpR X (binaryOp .Add) rCatG := fun pins s σ H x y v u Q I rx ry ⟨l, b, xs, zs, h1, h2, h3, h4, h5, k⟩ => op_cat pins s σ H x y v u Q I rx ry ⟨l, b, xs, zs, h1, h2, h3, h4, h5, fun p hp => k.go p hp⟩
def rRepG : R2 := fun x y H Q => ∃ l k xs, x = .ref l ∧ y = .int k ∧ H l = some (.lst xs) ∧ -(2 ^ 63) ≤ k ∧ k < 2 ^ 63 ∧ xs.length * k.toNat ≤ sizeLine ∧ New (.lst (List.replicate k.toNat xs).flatten) H Q
theorem op_repG : OpR X (binaryOp .Mult) rRepG := fun pins s σ H x y v u Q I rx ry ⟨l, k, xs, h1, h2, h3, h4, h5, h6, z⟩ => op_rep pins s σ H x y v u Q I rx ry ⟨l, k, xs, h1, h2, h3, h4, h5, h6, fun p hp => z.go p hp⟩
def rSlG (K : PySem.W.Frag) : V → Option Int → Option Int → Hp → VK → Prop := fun x lo hi H Q => ∃ a xs, x = .ref a ∧ SqL K H a xs ∧ New (.lst (cutV xs lo hi)) H Q
theorem sl_listG : SlR X (rSlG X.K) := fun pins s σ H x v vl vu lo hi sl Q I rx hs pl pu ⟨a, xs, h1, h2, k⟩ => sl_list pins s σ H x v vl vu lo hi sl Q I rx hs pl pu ⟨a, xs, h1, h2, fun p hp => k.go p hp⟩
def rListG (K : PySem.W.Frag) : List V → Hp → VK → Prop := fun xs H Q => ∃ p ys, xs = [.ref p] ∧ (SqL K H p ys ∨ SqT K H p ys) ∧ New (.lst ys) H Q
theorem call_listG : CallR X (.type "list") (rListG X.K) := fun pins s σ H xs us Q I r ⟨p, ys, h1, h2, k⟩ => call_list_of pins s σ H xs us Q I r ⟨p, ys, h1, h2, fun p hp => k.go p hp⟩
def rTupleG (K : PySem.W.Frag) : List V → Hp → VK → Prop := fun xs H Q => ∃ p ys, xs = [.ref p] ∧ SqL K H p ys ∧ New (.tup ys) H Q
theorem call_tupleG : CallR X (.type "tuple") (rTupleG X.K) := fun pins s σ H xs us Q I r ⟨p, ys, h1, h2, k⟩ => call_tuple_of pins s σ H xs us Q I r ⟨p, ys, h1, .inl ⟨h2, fun p hp => k.go p hp⟩⟩
def rSortedG (K : PySem.W.Frag) : List V → Hp → VK → Prop := fun vs H Q => ∃ (a : Addr) (ns : List Int), vs = [V.ref a] ∧ SqL K H a (ns.map V.int) ∧ ∀ ns' : List Int, ns'.Perm ns → ns'.Pairwise (· ≤ ·) → New (.lst (ns'.map V.int)) H Q
theorem cr_sortedG : CallR X (.builtin "sorted") (rSortedG X.K) := fun pins s σ H xs us Q I r ⟨a, ns, h1, h2, k⟩ => cr_sortedI pins s σ H xs us Q I r ⟨a, ns, h1, h2, fun ns' p h3 h4 hp => (k ns' h3 h4).go p hp⟩
end
/-! ### slices -/
theorem cut_to (xs : List V) (n : Nat) : cutV xs none (some (n : Int)) = xs.take n := by
  unfold cutV
  rw [HT.sIx_none, HT.sIx_nat, List.drop_zero, Nat.sub_zero]
  by_cases h : n ≤ xs.length
  · rw [Nat.min_eq_left h]
  · rw [Nat.min_eq_right (by omega), List.take_of_length_le (Nat.le_refl _), List.take_of_length_le (by omega)]
theorem cut_from (xs : List V) (n : Nat) : cutV xs (some (n : Int)) none = xs.drop n := by
  unfold cutV
  rw [HT.sIx_none, HT.sIx_nat]
  by_cases h : n ≤ xs.length
  · rw [Nat.min_eq_left h, List.take_of_length_le (by rw [List.length_drop]; exact Nat.le_refl _)]
  · rw [Nat.min_eq_right (by omega), List.drop_eq_nil_of_le (Nat.le_refl _), List.drop_eq_nil_of_le (by omega)]
    exact List.take_nil
/-! ### ways that come together -/
section
variable {X : Cx}
def tCutE (te : TE) : TE := fun σ H Q => ∃ M : V → Hp → Prop, te σ H M ∧ ∀ v H', M v H' → Q v H'
def tCutT (tt : TT) : TT := fun σ H Q => ∃ M : Bool → Hp → Prop, tt σ H M ∧ ∀ b H', M b H' → Q b H'
def tCutS (t : TS) : TS := fun D σ H => ∃ M : L2.St → Hp → Prop, t { D with nx := M } σ H ∧ ∀ σ' H', M σ' H' → D.nx σ' H'
theorem pe_cut {e : Expr} {te : TE} (h : PE X e te) : PE X e (tCutE te) := ⟨fun pins s σ H Q I ⟨M, hm, hq⟩ => thn (h.run pins s σ H M I hm) fun v s1 ⟨x, H1, I1, r, q⟩ => ⟨x, H1, I1, r, hq x H1 q⟩⟩
theorem pt_cut {e : Expr} {tt : TT} (h : PT X e tt) : PT X e (tCutT tt) := ⟨fun pins s σ H Q I ⟨M, hm, hq⟩ => thn (h.run pins s σ H M I hm) fun b s1 ⟨H1, I1, q⟩ => ⟨H1, I1, hq b H1 q⟩⟩
theorem ps_cut {st : Stmt} {t : TS} (h : PS X st t) : PS X st (tCutS t) := by
  refine ⟨fun pins s σ H D I ⟨M, hm, hq⟩ => thn (h.run pins s σ H { D with nx := M } I hm) fun f s1 q => ?_⟩
  cases f with
  | next =>
    obtain ⟨σ', H', I', q⟩ := q
    exact ⟨σ', H', I', hq σ' H' q⟩
  | ret v => exact q
  | brk => exact q
  | cont => exact q
end
theorem ifF {c : Bool} {A B : Prop} (h : c = false) (k : B) : if c = true then A else B := by
  rw [h]
  exact iteF k
theorem ifT {c : Bool} {A B : Prop} (h : c = true) (k : A) : if c = true then A else B := by
  rw [h]
  exact iteT k
theorem ifB {c : Bool} {A B : Prop} (h1 : c = true → A) (h2 : c = false → B) : if c = true then A else B := by
  cases c with
  | true => exact iteT (h1 rfl)
  | false => exact iteF (h2 rfl)
/-! ### comprehensions without tests, the element without a trace -/
theorem lc_mapL {K : PySem.W.Frag} {a : Addr} {xs ys : List V} {j : Nat} {te : TE} {vs : List Nat} {σ : L2.St} {H1 : Hp} {D : Addr} {Qd : Hp → Prop} (hx : SqL K H1 a xs) (hD : H1 D = none) (hl : ys.length = xs.length) (hz : xs.length ≤ sizeLine)
    (hw : ∀ x, wipe ((wipe σ vs).set j (some x)) vs = wipe σ vs)
    (he : ∀ (i : Nat) x y H', Ex H1 H' → xs[i]? = some x → ys[i]? = some y → ∀ R : VK, (∀ H2, Ex H' H2 → R y H2) → te ((wipe σ vs).set j (some x)) H' R)
    (k : ∀ H', Ex H1 H' → H' D = some (.lst ys) → Qd H') :
    ∃ W : Nat → Nat → Hp → Prop, (∃ m, W 0 m (upd H1 D (.lst []))) ∧ ∀ i m H, W i m H →
      ((Itl K a).stop i H ∧ Qd H) ∨ ((Itl K a).go i H ∧ ∃ Nx : Hp → Prop, (∀ H', Nx H' → ∃ m', m' < m ∧ W (i + 1) m' H') ∧ ∀ x H', (Itl K a).yld i H x H' → gName j x (wipe σ vs) H' fun σ2 H2 => wipe σ2 vs = wipe σ vs ∧ tYes σ2 H2 fun b H3 =>
        if b = true then te σ2 H3 fun y H4 => ∃ acc, H4 D = some (.lst acc) ∧ acc.length < sizeLine ∧ Nx (upd H4 D (.lst (acc ++ [y]))) else Nx H3) := by
  refine lc_list (xs := xs) (fun i H' => Ex H1 H' ∧ H' D = some (.lst (ys.take i))) ⟨Evl.Ex.new hD, upd_same⟩ (fun i H' _ p => Evl.ex_l p.1 hx) (fun i x H' hi p => ?_) (fun H' p => k H' p.1 ?_)
  · have hi' : i < xs.length := (List.getElem?_eq_some_iff.mp hi).1
    have hy : ys[i]? = some (ys[i]'(by omega)) := List.getElem?_eq_getElem (by omega)
    refine ⟨hw x, ?_⟩
    show te ((wipe σ vs).set j (some x)) H' _
    refine he i x _ H' p.1 hi hy _ fun H2 e2 => ⟨ys.take i, e2 _ _ p.2, ?_, ?_⟩
    · rw [List.length_take]
      omega
    · refine ⟨Evl.Ex.mut (p.1.trans e2) hD, ?_⟩
      rw [upd_same, List.take_add_one, hy]
      rfl
  · have := p.2
    rw [List.take_of_length_le (by omega)] at this
    exact this
end My
set_option Elab.async false
set_option linter.all false
set_option maxRecDepth 100000
set_option maxHeartbeats 4000000
/-! Own errors whose __init__ says super().__init__("..") and keeps one field. -/
namespace My
open PySem PySem.Spec PyProof.Rows L2 NdefX
/-! ### the built-in __init__ bound to a new error, called -/
section
variable {prog : Program} {w : World} {A : Around} {E : Value → Shared → Prop} {h : Heap} {g : Array GenState} {d : Drawn} {t : Nat} {os : OsState}
variable {nm q : Str} {C N : Addr} {bs bm : List Value} {hdct : Bool} {sn : List Str} {sub : List Value} {ab : Bool} {col : Option Bool} {dd : Option Addr} {k0 k1 k2 k3 k5 : Option Value}
theorem call_mwV {u e t0 : Addr} {rest : List Value} {Q : Value → Shared → Prop}
    (hC : h.get? C = some (excClassObj nm q C N bs bm hdct sn sub ab col dd k0 k1 k2 k3 k5 "ValueError.__new__")) (he : h.get? e = some (HandSPX.excO C t0)) (hu : h.get? u = some (PySem.W.kxs_mw "ValueError.__init__" e)) (hrest : rest.length ≤ sizeLine)
    (hq : ∀ h' t1, (∀ b o, b ≠ e → h.get? b = some o → h'.get? b = some o) → h'.get? e = some (HandSPX.excO C t1) → Q .none ⟨h', g, d, t, os⟩) :
    wpAny (model prog w) A (call (.ref u) rest) Q E ⟨h, g, d, t, os⟩ := by
  refine wpAny_call (codeAny_of_tree ?_)
  show wpAny _ A.in1 (callAny (.ref u) ⟨rest, []⟩) _ _ _
  simp only [callAny]
  refine wpAny_bind (wpAny_load hu ?_)
  simp only [PySem.W.kxs_mw, show (Value.type "method-wrapper" == Value.type "method" || Value.type "method-wrapper" == Value.type "builtin_function_or_method" || Value.type "method-wrapper" == Value.type "method-wrapper") = true by decide, if_true]
  refine W.KFB.if_so (by decide) ?_
  refine wpAny_bind (ESX.check_bound F.excBase_ValueError hC he rfl ?_)
  refine wpAny_bind (wpAny_pure (wpAny_pure ?_))
  refine ⟨Code.quiet_builtin _ (by decide +kernel), codeAny_builtin F.excBase_ValueError.initEntry ?_⟩
  rw [Around.under_plainId F.excBase_ValueError.init.plain _]
  wp_walk
  refine hq _ h.objs.size (fun b o hb ho => ?_) ?_
  · rw [Heap.get?_update_other _ _ (Ne.symm hb)]
    exact Heap.get?_push_of_some _ ho
  · rw [Heap.get?_update_self _ (Heap.get?_push_of_some _ he) rfl]
    rfl
end
/-- what the written part says of the __init__ and of the class D that holds it -/
structure InitT (P : Program) (K : PySem.W.Frag) (mg : Str → Option Value) (st : Stmt) (qu : Str) (fI cc cda D : Addr) (fd : FuncData) : Prop where
  ex : ∃ (oc : Value) (od : Option Addr) (kV doc pm : Value) (an : Option Addr) (ct : Value) (osl : Array (Option Value)),
    fd = PySem.W.fnX "__init__" qu (defArgs st) (defBody st) (defScope st) [("__class__", cc)] .none kV doc pm an (.ref cda) ct ∧ K.lookup fI = some ⟨oc, od, .func fd, osl⟩
  code : PySem.W.codeIn K (.ref cda) qu = true
  cell : ∃ cl cld csl, K.lookup cc = some ⟨cl, cld, .cell (some (.ref D)), csl⟩
  file : ∃ (ccl : Value) (cdd : Option Addr) (ccs : Array (Option Value)) (vs : Array Value) (fl : Str) (tf : Tok), K.lookup cda = some ⟨ccl, cdd, .fields vs, ccs⟩ ∧ vs[2]? = some (.str fl tf) ∧ ((P.main.file : Str) == fl) = true
  cls : ∃ cdD, PySem.W.clsIn K D = some cdD
  sup : mg "super" = none
  top : (P.main.scope.names.lookup ("super" : Str)).isSome = false
  opq : PySem.W.nsIn K cStatics "thirdparty.any" = some none
/-- what it says of a class C of errors that has this __init__ -/
structure ErrC (K : PySem.W.Frag) (fI D C : Addr) : Prop where
  oex : OexC K C
  init : PySem.W.findIn K (.ref C) "__init__" = some (some (.ref fI))
  tI : PySem.W.typeIn K (.ref fI) = some (.type "function")
  nov : PySem.W.findIn K (.ref C) "value" = some none
  mro : PySem.W.mroIn K C (.ref D) = some true
  sin : PySem.W.ks_superIn K C D "__init__" = some (some (.builtin "ValueError.__init__"))
  sub : PySem.W.subIn K (.ref C) (.type "ValueError") = some true
  xf : XfC K C
/-- the first statement, super().__init__("..") -/
abbrev sSuper (p0 p1 p2 p3 p4 p5 : Pos) (x : Str) (j : Nat) : Stmt := .Expr (.Call (.Attribute (.Call (.Name "super" p0) [] [] p1) "__init__" p2) [.Constant (.str x) j p3] [] p4) p5
abbrev sKeep (p0 p1 p2 p3 : Pos) : Stmt := .Assign [.Attribute (.Name "self" p0) "value" p1] (.Name "value" p2) p3
/-- the promise: the new error at a has, behind it, its dict with the value -/
def spErr (K : PySem.W.Frag) (fI D : Addr) : Sp := fun vs H Q _ => ∃ (a C : Addr) (v : V), vs = [.ref a, v] ∧ ErrC K fI D C ∧ H a = some (exo a C none) ∧
  ∀ dx, H dx = none → dx ≠ a → Q .non (upd (upd H dx (exd dx [("value", v)])) a (exo a C (some dx)))
section
variable {P : Program} {w : World} {K : PySem.W.Frag} {mg : Str → Option Value} {base : Heap} {st : Stmt} {qu : Str} {fI cc cda D : Addr} {fd : FuncData}
theorem super_step {A : Around} {outer : List Env} {s0 : Shared} {H0 : Hp} {E0' : XK} {F : NF} {body : List Stmt} {p0 p1 p2 p3 p4 p5 : Pos} {x : Str} {j : Nat} {a C : Addr} {v : V} {H : Hp} {s : Shared} {ws : List (Option V)} {Q : Flow → Shared → Prop} {N : List Str}
    (T : InitT P K mg st qu fI cc cda D fd) (hF : F = ⟨"__init__", qu, defArgs st, defBody st, defScope st, [("__class__", cc)], cda⟩) (TC : ErrC K fI D C)
    (hks : (defScope st).names.lookup ("super" : Str) = some .globalImplicit) (hkc : (defScope st).names.lookup ("__class__" : Str) = some .free) (hka : (defScope st).names.lookup ("self" : Str) = some .local) (hk : (defScope st).kind = .function)
    (hp : ((defArgs st).posonlyargs ++ (defArgs st).args).head?.map (·.arg) = some ("self" : Str)) (hN : N[0]? = some ("self" : Str))
    {pl : Sem Bool} (hev : ∀ env : Env, eval (.Call (.Attribute (.Call (.Name "super" p0) [] [] p1) "__init__" p2) [.Constant (.str x) j p3] [] p4) env = (do
      let ov ← attributeBase (.Call (.Name "super" p0) [] [] p1) "__init__" env (eval (.Call (.Name "super" p0) [] [] p1) env)
      standAt p2.atName
      let (f, first) ← holding [ov] (getMethod ov "__init__" pl)
      callWith p4 f first (backTo p4 (starEach [.Constant (.str x) j p3] env)) []))
    (I : Inv (ncx CX0 P w K mg base N F fI A outer s0 H0 E0') [] (some (.ref a) :: some v :: ws) H s) (ha : H a = some (exo a C none))
    (h : ∀ s', Inv (ncx CX0 P w K mg base N F fI A outer s0 H0 E0') [] (some (.ref a) :: some v :: ws) H s' → Q .next s') :
    _root_.PySem.wpAt (model P w) (ncx CX0 P w K mg base N F fI A outer s0 H0 E0').A (.func body (ncx CX0 P w K mg base N F fI A outer s0 H0 E0').env) (exec (sSuper p0 p1 p2 p3 p4 p5 x j) (ncx CX0 P w K mg base N F fI A outer s0 H0 E0').env) Q (ncx CX0 P w K mg base N F fI A outer s0 H0 E0').xe s := by
  subst hF
  obtain ⟨oc, od, kV, doc, pm, an, ct, osl, efd, lk⟩ := T.ex
  obtain ⟨cl, cld, csl, hcell⟩ := T.cell
  obtain ⟨ccl, cdd, ccs, vs, fl, tf, hcode, hvs, hfile⟩ := T.file
  obtain ⟨cdD, hD⟩ := T.cls
  obtain ⟨nm, q, N', bs, bm, sn, sub, ab, col, dd, k0, k1, k2, k3, k5, hC, hbm⟩ := TC.oex.cls
  have hcl : PySem.W.clsIn K C = some { name := nm, bases := bs, mro := .ref C :: bm, ns := N', qualname := q, hasDict := true, slotNames := sn, subclasses := sub, abstract := ab, collection := col, hasDel := false } := by unfold PySem.W.clsIn; rw [hC] <;> rfl
  have KX : K.In s.heap := I.kIn
  obtain ⟨ar, har, harg⟩ : ∃ ar, ((defArgs st).posonlyargs ++ (defArgs st).args).head? = some ar ∧ ar.arg = ("self" : Str) := by
    cases e : ((defArgs st).posonlyargs ++ (defArgs st).args).head? with
    | none => rw [e] at hp; cases hp
    | some ar => rw [e] at hp; exact ⟨ar, rfl, Option.some.inj hp⟩
  obtain ⟨oD, hD1, hD2⟩ : ∃ oD, s.heap.get? D = some oD ∧ oD.data = .cls cdD := by
    unfold PySem.W.clsIn at hD
    split at hD
    · rename_i c d cd' sl ho
      cases hD
      exact ⟨_, KX _ _ ho, rfl⟩
    · cases hD
  obtain ⟨t1, hoe⟩ := exo_at I.hok ha
  -- the name self
  obtain ⟨m, hns, hl⟩ := id I.loc
  obtain ⟨u0, ru, lu⟩ := hl 0 "self" (.ref a) hN rfl (.inl hka)
  obtain rfl : u0 = Value.ref a := ru
  have hself : m "self" = some (.ref a) := by
    rcases lu with ⟨_, q⟩ | ⟨q, _⟩
    · exact q
    · have e : (defScope st).names.lookup ("self" : Str) = some .cell ∨ (defScope st).names.lookup ("self" : Str) = some .free := q
      rw [hka] at e
      rcases e with z | z <;> cases z
  obtain ⟨mb, hb1, hb2⟩ := I.mod.blt
  refine ks_wpAt_Expr_any (ks_wpAt_MethodCall ?_ (hev _)) (I.quiet) rfl
  refine ks_wpAt_super_base hks hkc (by decide) rfl (KX _ _ lk) (by rw [efd]) (ar := ar) har rfl (KX _ _ hcode) rfl hvs hfile T.top ?_
  refine PySem.W.ks_loadName_global hk hks (Calls.loadGlobal_builtin (I.mod.glob.keeps I.bk) T.sup (hb1.keeps I.bk) ((hb2 _ (by decide)).trans (by decide +kernel)) ⟨rfl, ?_⟩)
  refine wpAny_loadName_free hk hkc rfl ⟨_, KX _ _ hcell, rfl⟩ ?_
  rw [harg]
  refine wpAny_loadName_local hk hka hns hself ?_
  refine ks_wpAny_isType_cls hD1 hD2 ⟨rfl, ?_⟩
  obtain ⟨hp0, g, d, t, os⟩ := s
  refine ks_wpAny_call_super hD1 hD2 hoe rfl (fun c e => by cases e) (PySem.W.looks_mroIn KX TC.mro) (fun h1 e1 k1' => ?_)
  have I1 : Inv (ncx CX0 P w K mg base N ⟨"__init__", qu, defArgs st, defBody st, defScope st, [("__class__", cc)], cda⟩ fI A outer s0 H0 E0') [] (some (.ref a) :: some v :: ws) H ⟨h1, g, d, t, os⟩ := I.kept (h' := h1) (t' := t) k1'
  have KX1 : K.In h1 := I1.kIn
  have hoe1 := k1' _ _ hoe
  have hnaC : a ≠ C := by
    rintro rfl
    have z := KX _ _ hC
    rw [hoe] at z
    cases z
  have hI1 : PySem.W.Looks (model P w) h1 (isInstance (.ref a) (.type "ValueError")) true := (show PySem.W.InstAt h1 a _ C none from ⟨hoe1, rfl, rfl, trivial⟩).type.andThen (PySem.W.looks_subIn KX1 TC.sub)
  have hsin := TC.sin
  unfold PySem.W.ks_superIn at hsin
  rw [hcl, Option.bind_some] at hsin
  refine PySem.W.kxs_getMethod PySem.W.kxs_ValueError e1 (PySem.W.looks_opaque KX1 T.opq) (l₀ := .ref C :: bm) ?_ rfl KX1 hsin hI1 hnaC (by decide) ?_
  · exact fun A Q E s k q => wpAny_bind ((PySem.W.looks_clsIn KX1 hcl) A _ E s k (wpAny_pure q))
  have I2 : Inv (ncx CX0 P w K mg base N ⟨"__init__", qu, defArgs st, defBody st, defScope st, [("__class__", cc)], cda⟩ fI A outer s0 H0 E0') [] (some (.ref a) :: some v :: ws) H ⟨h1.push (PySem.W.kxs_mw "ValueError.__init__" a), g, d, t + 1, os⟩ := I1.kept (t' := t + 1) fun b o e => Heap.get?_push_of_some _ e
  have hu2 : (h1.push (PySem.W.kxs_mw "ValueError.__init__" a)).get? h1.objs.size = some (PySem.W.kxs_mw "ValueError.__init__" a) := Heap.get?_push_at rfl rfl
  have hoe2 : (h1.push (PySem.W.kxs_mw "ValueError.__init__" a)).get? a = _ := Heap.get?_push_of_some _ hoe1
  show wpAny _ _ (callWith p4 (.ref h1.objs.size) [] (backTo p4 (starEach [.Constant (.str x) j p3] _)) []) _ _ _
  refine PySem.W.kxs_callWith (i := "ValueError.__init__") (x := a) rfl (PySem.Calls.evalArgs_plain ?_)
  refine args_cons (Calls.Constant_str (args_nil ⟨hu2, ?_⟩)) rfl
  have I3 := I2.tok (t + 1 + 1)
  refine call_mwV (KX1.keeps (fun b o e => Heap.get?_push_of_some _ e) _ _ hC) hoe2 hu2 (by show 1 ≤ sizeLine; decide) (fun h' t' k he => ?_)
  have J := I3.write (t' := t + 1 + 1) (x := a) (e := a) (o := exo a C none) (by rw [ha]; exact True.intro) (.inl rfl) k ⟨_, he⟩ (exo_ok he)
  have eu : upd H a (exo a C none) = H := by
    funext b
    by_cases hb : b = a
    · rw [hb, upd_same, ha]
    · rw [upd_ne hb]
  rw [eu] at J
  exact h _ J
theorem ok_err {p0 p1 p2 p3 p4 p5 q0 q1 q2 q3 : Pos} {x : Str} {j : Nat} {pl : Sem Bool} (T : InitT P K mg st qu fI cc cda D fd) (S : NScope ["self", "value", "__class__"] ["self", "value"] ["__class__"] (defScope st))
    (hbd : defBody st = [sSuper p0 p1 p2 p3 p4 p5 x j, sKeep q0 q1 q2 q3]) (hks : (defScope st).names.lookup ("super" : Str) = some .globalImplicit)
    (hp : ((defArgs st).posonlyargs ++ (defArgs st).args).head?.map (·.arg) = some ("self" : Str))
    (hev : ∀ env : Env, eval (.Call (.Attribute (.Call (.Name "super" p0) [] [] p1) "__init__" p2) [.Constant (.str x) j p3] [] p4) env = (do
      let ov ← attributeBase (.Call (.Name "super" p0) [] [] p1) "__init__" env (eval (.Call (.Name "super" p0) [] [] p1) env)
      standAt p2.atName
      let (f, first) ← holding [ov] (getMethod ov "__init__" pl)
      callWith p4 f first (backTo p4 (starEach [.Constant (.str x) j p3] env)) [])) : FnOk P w K mg base CX0 1 fI fd ["self", "value"] (spErr K fI D) := by
  refine ⟨fun vs H Q E h => by obtain ⟨a, C, v, rfl, _⟩ := h; rfl, fun A outer s H args us vs Q E hr e0 hb r hsp => ?_⟩
  have KX : K.In s.heap := e0.mod.kin.keeps fun b o e => (e0.bs b o e).1
  have lim : s.heap.NoLimit := e0.mod.nolimit.keeps fun b o e => (e0.bs b o e).1
  obtain ⟨oc, od, kV, doc, pm, an, ct, osl, efd, lk⟩ := id T.ex
  obtain ⟨cl, cld, csl, hcell⟩ := T.cell
  obtain ⟨a, C, v, ev, TC, ha, k⟩ := hsp
  subst ev
  have hl : [V.ref a, v].length = (["self", "value"] : List Str).length := rfl
  have hC : CellsAt [(("__class__" : Str), cc)] ["__class__"] [some (.ref D)] s.heap H := by
    have hb := e0.mod.kin _ _ hcell
    have hs := e0.bs _ _ hb
    have key : ∀ {y : Str} {c : Addr}, ([(("__class__" : Str), cc)] : List (Str × Addr)).lookup y = some c → c = cc ∧ y = "__class__" := fun {y c} e => by
      have z := PySem.mem_of_lookup e
      have z' : (y, c) = (("__class__" : Str), cc) := by simpa using z
      exact ⟨congrArg Prod.snd z', congrArg Prod.fst z'⟩
    refine ⟨rfl, fun y c e => ?_, fun y z c e1 e2 => (key e1).2.trans (key e2).2.symm, fun i y e => ?_⟩
    · obtain ⟨rfl, rfl⟩ := key e
      exact ⟨hs.2, _, _, hs.1, rfl⟩
    · cases i with
      | zero =>
        have e' : ("__class__" : Str) = y := Option.some.inj e
        subst e'
        refine ⟨cc, by simp [List.lookup], fun u hu => ?_⟩
        have hu' : some (some (V.ref D)) = some (some u) := hu
        cases hu'
        exact ⟨.ref D, rfl, _, hs.1, rfl⟩
      | succ i => simp at e
  have hfd : (K.lookup fI) = some ⟨oc, od, .func (PySem.W.fnX "__init__" qu (defArgs st) (defBody st) (defScope st) [("__class__", cc)] .none kV doc pm an (.ref cda) ct), osl⟩ := by rw [← efd]; exact lk
  refine codeAny_call_function hr.depth (KX _ _ hfd) rfl S.co S.gen rfl (PySem.W.codeRec_of KX T.code) ?_
  have hb' := hb
  rw [efd] at hb'
  refine hb' _ _ _ _ ?_
  refine wpAny_newFunctionEnv S.nocell (fun ⟨n, _⟩ hy => S.par n (List.of_mem_zip hy).1) (fun h₁ hns hsb => ⟨lim.fresh _ hsb, ?_⟩) S.kind
  have kp : ∀ b o, s.heap.get? b = some o → h₁.get? b = some o := fun b o e => hsb.extBut b o (Nat.ne_of_lt (Heap.lt_size e)) (Heap.get?_push_of_some _ e)
  have I : Inv (ncx CX0 P w K mg base ["self", "value", "__class__"] ⟨"__init__", qu, defArgs st, defBody st, defScope st, [("__class__", cc)], cda⟩ fI A outer s H E) [] (startF ["self", "value", "__class__"] [V.ref a, v] [some (.ref D)]) H { s with heap := h₁, toks := s.toks + ((["self", "value"] : List Str).zip us).length } :=
    inv_startN (F := ⟨"__init__", qu, defArgs st, defBody st, defScope st, [("__class__", cc)], cda⟩) S hr.hd e0 hl r hC hns kp
  refine ks_codeAny_funcAt (env := (ncx CX0 P w K mg base ["self", "value", "__class__"] ⟨"__init__", qu, defArgs st, defBody st, defScope st, [("__class__", cc)], cda⟩ fI A outer s H E).env) (body := defBody st) ?_
  rw [show execs (defBody st) = execs [sSuper p0 p1 p2 p3 p4 p5 x j, sKeep q0 q1 q2 q3] from congrArg execs hbd]
  refine ks_wpAt_execs_cons (super_step T rfl TC hks (S.frk _ (by simp)) (S.par _ (by simp)) S.kind hp rfl hev I ha fun s' I' => ?_)
  have hpst : PSs (ncx CX0 P w K mg base ["self", "value", "__class__"] ⟨"__init__", qu, defArgs st, defBody st, defScope st, [("__class__", cc)], cda⟩ fI A outer s H E) [sKeep q0 q1 q2 q3] _ :=
    pss_one (ps_ost (pe_var (i := 0) rfl (.inl (S.par _ (by simp)))) (pe_var (i := 1) rfl (.inl (S.par _ (by simp)))))
  have run := hpst.run [] s' _ H { nx := fun _ H' => Q .non H', rt := Q } I' ⟨_, rfl, _, rfl, a, C, rfl, TC.oex, TC.nov, .inl ⟨ha, k⟩⟩
  refine wpAt_of_wpAny (wpAny_mono run (fun fl s2 hs => ?_) fun e s2 hs => hs)
  have fin : ∀ {σ' : L2.St} {H' : Hp} {v : V} {u : Value}, Inv (ncx CX0 P w K mg base ["self", "value", "__class__"] ⟨"__init__", qu, defArgs st, defBody st, defScope st, [("__class__", cc)], cda⟩ fI A outer s H E) [] σ' H' s2 → L2.RelV v u → Q v H' → CE outer P w H s Q u s2 :=
    fun {σ' H' v u} J rv q => ⟨v, H', J.os, J.bare, J.base, J.hok, rv, q⟩
  cases fl with
  | ret u =>
    obtain ⟨v, σ', H', J, rv, q⟩ := hs
    exact fin J rv q
  | next =>
    obtain ⟨σ', H', J, q⟩ := hs
    exact fin (v := V.non) (u := Value.none) J rfl q
  | brk =>
    obtain ⟨_, _, _, q⟩ := hs
    exact False.elim q
  | cont =>
    obtain ⟨_, _, _, q⟩ := hs
    exact False.elim q
end
/-! ### raise X(e) -/
/-- an error of the class at C with the value v is what is wanted -/
def Raised (C : Addr) (v : V) (H : Hp) (E : XK) : Prop := ∀ d H', H d = none → Ex H H' → H' d = some (.xd [("value", v)]) → E (.ref C) (some d) H'
def tErr (C : Addr) (ta : TA) : L2.St → Hp → XK → Prop := fun σ H Q => ta σ H fun vs H1 => ∃ v, vs = [v] ∧ Raised C v H1 Q
section
variable {X : Cx} {K : PySem.W.Frag} {fI D C : Addr} {fd : FuncData} {x : Str} {p pos : Pos} {e : Expr} {ta : TA}
theorem pmk_err (F : FnOk X.prog X.w X.K X.mg X.base CX0 1 fI fd ["self", "value"] (spErr X.K fI D)) (hb : Binds X.K fd ["self", "value"] []) (TC : ErrC X.K fI D C) (hr : Room 2 X.A) (hg : Gl X x) (hm : X.mg x = some (.ref C)) (ha : PA X [e] ta)
    (hdb : (x == ("__debug__" : Str)) = false := by decide) (he : starEach [e] X.env = (false, eval e X.env) :: starEach [] X.env := by rfl) (hpl : (backTo pos (starEach [] X.env)).any (·.1) = false := by rfl) :
    PMk X (.Call (.Name x p) [e] [] pos) (tErr C ta) := fun pins s σ H Q I h => by
  refine pmk_oex (sp := spErr X.K fI D) (dvs := []) TC.oex TC.init TC.tI F hr hb .nil pass0 hg hm (pa_cut ha) hdb he hpl pins s σ H Q I ⟨_, h, fun vs H1 z => ?_⟩
  obtain ⟨v, rfl, k⟩ := z
  refine ⟨by show 1 ≤ 1000; decide, fun a hn => ⟨a, C, v, rfl, TC, upd_same, fun dx hdx ne => ⟨rfl, dx, [("value", v)], upd_same, by rw [upd_ne ne, upd_same], ?_, ?_⟩⟩⟩
  · rw [upd_ne ne] at hdx
    exact hdx
  · rw [upd_ne ne] at hdx
    refine k dx _ hdx (fun b o hb => ?_) upd_same
    have n1 := ne_of_none hb hdx
    have n2 := ne_of_none hb hn
    rw [upd_ne n1, del_ne n2, upd_ne n2, upd_ne n1, upd_ne n2]
    exact hb
end
/-- calls of a def that may raise, in one that may -/
theorem passX {P : Program} {w : World} {K : PySem.W.Frag} {mg : Str → Option Value} {base : Heap} {N : List Str} {qual : Str} {scope : Scope} {f : Addr} {cd : Value} {A : Around} {outer : List Env} {s : Shared} {H : Hp} {E : XK} :
    Passes (L2.CX P w) (cxOf (L2.CX P w) P w K mg base N qual scope f cd A outer s H E) E := passes_call (X := cxOf (L2.CX P w) P w K mg base N qual scope f cd A outer s H E) (takes_of rfl rfl rfl rfl) (fun _ _ _ _ h => h)
/-! ### what the head's facts give -/
theorem along_ve (K : PySem.W.Frag) : PySem.W.alongIn K "__init__" PySem.HandSPX.veTail = some (some (.builtin "ValueError.__init__")) := by kernel_rfl
section
variable {K : PySem.W.Frag} {nm q : Str} {C D N : Addr} {bs : List Value} {sn : List Str} {sub : List Value} {ab : Bool} {col : Option Bool} {dd : Option Addr} {k0 k1 k2 k3 k5 : Option Value}
theorem sup_self (h : K.lookup C = some (excClassObj nm q C N bs PySem.HandSPX.veTail true sn sub ab col dd k0 k1 k2 k3 k5 "ValueError.__new__")) (e : C = D) : PySem.W.ks_superIn K C D "__init__" = some (some (.builtin "ValueError.__init__")) := by
  subst e
  unfold PySem.W.ks_superIn PySem.W.clsIn
  rw [h]
  show PySem.W.alongIn K "__init__" (((Value.ref C :: PySem.HandSPX.veTail).dropWhile (· != .ref C)).drop 1) = _
  rw [ESX.drop_own]
  exact along_ve K
theorem sup_child (h : K.lookup C = some (excClassObj nm q C N bs (.ref D :: PySem.HandSPX.veTail) true sn sub ab col dd k0 k1 k2 k3 k5 "ValueError.__new__")) (e : (C == D) = false) : PySem.W.ks_superIn K C D "__init__" = some (some (.builtin "ValueError.__init__")) := by
  unfold PySem.W.ks_superIn PySem.W.clsIn
  rw [h]
  show PySem.W.alongIn K "__init__" (((Value.ref C :: Value.ref D :: PySem.HandSPX.veTail).dropWhile (· != .ref D)).drop 1) = _
  have ne : ((Value.ref C : Value) != .ref D) = true := by
    have : C ≠ D := by simpa using e
    simp [this]
  rw [List.dropWhile_cons, if_pos ne, ESX.drop_own]
  exact along_ve K
theorem exm_gen {S S' : Addr} {b : Bool} (h1 : PySem.W.subIn K (.ref S') (.type "BaseException") = some true) (h2 : PySem.W.isClsIn K S' = true) (h3 : PySem.W.typeIn K (.ref S') = some (.type "type")) (h4 : PySem.W.subIn K (.ref S) (.ref S') = some b) :
    PySem.W.exmOne K (.ref S) (.ref S') = some b := by
  have e1 : (PySem.W.subIn K (.ref S') (.type "BaseException") == some true) = true := by rw [h1] <;> rfl
  have e2 : ((PySem.W.clsIn K S').isSome && PySem.W.typeIn K (.ref S') == some (.type "type")) = true := by
    have h2' : (PySem.W.clsIn K S').isSome = true := h2
    rw [h2', h3] <;> rfl
  show (if (PySem.W.subIn K (.ref S') (.type "BaseException") == some true) = true then (if ((PySem.W.clsIn K S').isSome && PySem.W.typeIn K (.ref S') == some (.type "type")) = true then PySem.W.subIn K (.ref S) (.ref S') else none) else none) = some b
  rw [if_pos e1, if_pos e2]
  exact h4
end
end My
set_option Elab.async false
set_option linter.all false
set_option maxRecDepth 100000
set_option maxHeartbeats 4000000
/-! Further rules: sum of a tuple, len of a range, calls by keywords of a def that may raise. -/
namespace My
open PySem PySem.Spec PyProof.Rows L2
section
variable {prog : Program} {w : World} {A : Around} {E : Value → Shared → Prop} {s : Shared} {l : Addr} {its : List Value} {ns : List Int} {Q : Value → Shared → Prop}
theorem sum_tupRaw (hh : A.handled = none) (hl : s.heap.IsTuple l its.toArray) (hi : IntsAre its ns)
    (h : ∀ h' tk t', (∀ b o, s.heap.get? b = some o → h'.get? b = some o) → Q (.int ns.sum t') { s with heap := h', toks := tk }) : wpAny (model prog w) A (call (.builtin "sum") [.ref l]) Q E s := by
  obtain ⟨xs, e⟩ := hi.allInts.items
  have hn : numsOf (intItems xs).toList = ns := by rw [← e]; exact hi.numsOf
  rw [nums_intItems] at hn
  rw [e] at hl
  have hlt : l < s.heap.objs.size := by obtain ⟨_, e, _⟩ := hl; exact Heap.lt_size e
  refine call_sum_walkG (wpAny_pyIter_tuple hl ?_)
  refine ⟨_, _, _, _, _, _, numAt xs, rfl, Walks.tuple (A := A.in1) hh _ l (Nat.ne_of_lt hlt) (intItems xs), ⟨⟨_, Heap.get?_push_size _ rfl, rfl, rfl⟩, ?_⟩, (fun b hb => ?_), (fun _ _ => intItems_at), fun h' tk t' hk => ?_⟩
  · obtain ⟨o, e1, e2⟩ := hl
    exact ⟨o, Heap.get?_push_of_some _ e1, e2⟩
  · show b < (s.heap.push _).objs.size
    rw [Heap.size_push]
    rcases List.mem_cons.mp hb with rfl | hb
    · exact Nat.lt_succ_self _
    · rcases List.mem_cons.mp hb with rfl | hb
      · exact Nat.lt_succ_of_lt hlt
      · cases hb
  · have := h h' tk t' (fun b o e => hk b o (fun hm => by
      have z : b = s.heap.objs.size := by simpa using hm
      exact Nat.ne_of_lt (Heap.lt_size e) z) (Heap.get?_push_of_some _ e))
    have e2 : preSum (numAt xs) (intItems xs).size = ns.sum := by
      rw [preSum_eq, List.take_of_length_le (by simp [intItems]), hn]
    rw [e2]
    exact this
end
section
variable {X : Cx}
def rSumT (K : PySem.W.Frag) : List V → Hp → VK → Prop := fun vs H Q => ∃ (a : Addr) (ns : List Int), vs = [V.ref a] ∧ SqT K H a (ns.map V.int) ∧ Q (.int ns.sum) H
theorem cr_sumT (hc : X.calm = true) : CallR X (.builtin "sum") (rSumT X.K) := by
  intro pins s σ H vs us Q I r h
  obtain ⟨a, ns, rfl, hs, q⟩ := h
  obtain ⟨its, rv, hl, _⟩ := I.tuple hs
  rw [Vals.ref1 r]
  exact sum_tupRaw (I.ok.hd hc) hl rv.ints fun h' tk t' hk => ⟨.int _, H, I.kept hk, ⟨_, rfl⟩, q⟩
/-- len(range(a, b)) -/
def rLenR : List V → Hp → VK → Prop := fun vs H Q => ∃ (p : Addr) (lo hi : Int), vs = [V.ref p] ∧ H p = some (.rng lo hi) ∧ hi - lo < 2 ^ 62 ∧ Q (.int (if lo < hi then hi - lo else 0)) H
theorem call_lenR : CallR X (.builtin "len") rLenR := by
  intro pins s σ H vs us Q I r h
  obtain ⟨p, lo, hi, rfl, hp, hz, q⟩ := h
  rw [Vals.ref1 r]
  obtain ⟨t, u, v, ho⟩ := (show ObjOk X.prog X.w H s.heap p (.rng lo hi) from I.hok p _ hp)
  have e : ((if lo < hi then hi - lo else 0 : Int)) = (((if lo < hi then hi - lo else 0 : Int)).toNat : Int) := by split <;> omega
  refine call_len_range (n := ((if lo < hi then hi - lo else 0 : Int)).toNat) (a := lo) (b := hi) (c := 1) ho ?_ ?_ ?_
  · rw [rangeSize_one, ← e]
  · rw [← e]
    split <;> omega
  · rw [← e]
    exact ⟨.int _, H, I.tok _, ⟨_, rfl⟩, q⟩
def rRangeG : List V → Hp → VK → Prop := fun vs H Q => ∃ i j, vs = [V.int i, V.int j] ∧ New (.rng i j) H Q
theorem cr_rangeG : CallR X (.type "range") rRangeG := fun pins s σ H xs us Q I r ⟨i, j, h1, k⟩ => cr_range2 pins s σ H xs us Q I r ⟨i, j, h1, fun p hp => k.go p hp⟩
end
section
variable {X : Cx} {CX : CXT} {k : Nat} {f C : Addr} {fd : FuncData} {ps ks : List Str} {sp : Sp} {E : L2.St → XK} {x m : Str} {p pos apos kpos : Pos} {kws : List Keyword} {tk : TA} {g : List Value → List Value → List Value} {gV : List V → List V → List V}
theorem run_fnkS {pins : List (Addr × Obj)} {σ : L2.St} {H : Hp} {s : Shared} {Q : VK} {us ws : List Value} {vs zs : List V} (F : FnOk X.prog X.w X.K X.mg X.base CX k f fd ps sp) (hr : Room k X.A) (hb : KBinds X.K fd ps ks g gV) (hx : PassesAt CX X σ (E σ))
    (I : Inv X pins σ H s) (r : Vals vs us) (rz : Vals zs ws) (h : sp (gV vs zs) H Q (E σ)) : wpAny (model X.prog X.w) X.A (call (.ref f) us (ks.zip ws)) (EP X pins σ Q) X.xe s := by
  have r2 := hb.rel r rz
  have hl : (g us ws).length = ps.length := by rw [← r2.length]; exact F.len _ _ _ _ h
  refine wpAny_call (codeAny_mono (F.run X.A X.stack s H ⟨us, ks.zip ws⟩ (g us ws) (gV vs zs) Q (E σ) hr I.env0 (hb.to s us ws I.kIn hl) r2 h) fun r s' hq => ?_)
  cases r with
  | error e => exact hx pins H s e s' I hq
  | ok fl =>
    cases fl with
    | ret u => exact I.after hq
    | next => exact False.elim hq
    | brk => exact False.elim hq
    | cont => exact False.elim hq
def tCallKS (sp : Sp) (gV : List V → List V → List V) (E : L2.St → XK) (t tk : TA) : TE := fun σ H Q => t σ H fun vs H1 => tk σ H1 fun zs H2 => sp (gV vs zs) H2 Q (E σ)
/-- f(k = v, ..) in a try -/
theorem pe_callK0S (F : FnOk X.prog X.w X.K X.mg X.base CX k f fd ps sp) (hr : Room k X.A) (hg : Gl X x) (hm : X.mg x = some (.ref f)) (hk : PySem.W.keepIn X.K (.ref f) = true) (hb : KBinds X.K fd ps ks g gV) (hx : ∀ σ, PassesAt CX X σ (E σ))
    (hkw : PK X kws tk) (hall : (backToKw pos (keywordEach kws X.env)).all (·.1.isSome) = true := by rfl) (hks : (backToKw pos (keywordEach kws X.env)).filterMap (·.1) = ks := by rfl)
    (hdb : (x == ("__debug__" : Str)) = false := by decide)
    (hpl : ((backTo pos (starEach [] X.env)).any (·.1) || (backToKw pos (keywordEach kws X.env)).any (·.1.isNone)) = false := by rfl) :
    PE X (.Call (.Name x p) [] kws pos) (tCallKS sp gV E tNil tk) := by
  refine ⟨fun pins s σ H Q I h => ?_⟩
  refine wpAny_Call_Name_kw (ld_glob I hg hm ?_ hdb)
  refine PySem.W.callWith_KW0 (h₀ := X.base) I.ok.mod.kin hk hall ?_ hpl
  refine thn (hkw.run pos pins s σ H _ I h) fun ws s2 ⟨zs, H2, I2, rz, q2⟩ => ⟨I2.kIn, ?_⟩
  rw [hks]
  exact run_fnkS (us := []) (vs := []) F hr hb (hx σ) I2 .nil rz q2
variable {e : Expr} {es : List Expr} {t : TA}
/-- f(e, .., k = v, ..) in a try -/
theorem pe_callKS (F : FnOk X.prog X.w X.K X.mg X.base CX k f fd ps sp) (hr : Room k X.A) (hg : Gl X x) (hm : X.mg x = some (.ref f)) (hk : PySem.W.keepIn X.K (.ref f) = true) (hb : KBinds X.K fd ps ks g gV) (hx : ∀ σ, PassesAt CX X σ (E σ))
    (ha : PA X (e :: es) t) (hkw : PK X kws tk) (hall : (backToKw pos (keywordEach kws X.env)).all (·.1.isSome) = true := by rfl) (hks : (backToKw pos (keywordEach kws X.env)).filterMap (·.1) = ks := by rfl)
    (hdb : (x == ("__debug__" : Str)) = false := by decide) (he : starEach (e :: es) X.env = (false, eval e X.env) :: starEach es X.env := by rfl)
    (hpl : ((backTo pos (starEach (e :: es) X.env)).any (·.1) || (backToKw pos (keywordEach kws X.env)).any (·.1.isNone)) = false := by rfl) :
    PE X (.Call (.Name x p) (e :: es) kws pos) (tCallKS sp gV E t tk) := by
  refine ⟨fun pins s σ H Q I h => ?_⟩
  refine wpAny_Call_Name_kw (ld_glob I hg hm ?_ hdb)
  refine PySem.W.callWith_KW (h₀ := X.base) I.ok.mod.kin hk hall (thn (ha.run pos pins s σ H _ I h) fun us s1 ⟨vs, H1, I1, r, q⟩ => ?_) hpl he
  refine thn (hkw.run pos pins s1 σ H1 _ I1 q) fun ws s2 ⟨zs, H2, I2, rz, q2⟩ => ⟨I2.kIn, ?_⟩
  rw [hks]
  exact run_fnkS F hr hb (hx σ) I2 r rz q2
end
/-! rules within a comprehension: what may be kept by name is that of the def -/
section
variable {X : Cx} {K : PySem.W.Frag}
theorem crK {f : Value} {r : PySem.W.Frag → List V → Hp → VK → Prop} (h : X.K = K) (c : CallR X f (r X.K)) : CallR X f (r K) := h ▸ c
theorem ixK {r : PySem.W.Frag → R2} (h : X.K = K) (c : IxR X (r X.K)) : IxR X (r K) := h ▸ c
theorem opK {f : Value → Value → Sem Value} {r : PySem.W.Frag → R2} (h : X.K = K) (c : OpR X f (r X.K)) : OpR X f (r K) := h ▸ c
def rLenSq (K : PySem.W.Frag) : List V → Hp → VK → Prop := fun xs H Q => ∃ p ys, xs = [.ref p] ∧ (SqL K H p ys ∨ SqT K H p ys) ∧ Q (.int ys.length) H
end
end My
set_option Elab.async false
set_option linter.all false
set_option maxRecDepth 100000
set_option maxHeartbeats 4000000
/-! Defs under which repr may be asked: no repr is under way. -/
namespace My
open PySem PySem.Spec PyProof.Rows L2
structure FnOkG (P : Program) (w : World) (K : PySem.W.Frag) (mg : Str → Option Value) (base : Heap) (CX : CXT) (k : Nat) (f : Addr) (fd : FuncData) (ps : List Str) (sp : Sp) : Prop where
  len : ∀ vs H Q E, sp vs H Q E → vs.length = ps.length
  run : ∀ (A : Around) (outer : List Env) (s : Shared) (H : Hp) (args : Args) (us : List Value) (vs : List V) (Q : VK) (E : XK), Room k A → A.guards = some [] → Env0 P w K mg base A outer s H → BindsTo s fd args (ps.zip us) → Vals vs us → sp vs H Q E →
    codeAny (model P w) A (.call (.ref f) args) (CR CX outer P w H s Q E) s
theorem fn_ofG {CX : CXT} {P : Program} {w : World} {K : PySem.W.Frag} {mg : Str → Option Value} {base : Heap} {k : Nat} {f : Addr} {name qual : Str} {params : Arguments} {body : List Stmt} {scope : Scope} {dV kV doc pm cdv ct oc : Value} {an od : Option Addr}
    {osl : Array (Option Value)} {N ps : List Str} {sp : Sp} (lk : K.lookup f = some ⟨oc, od, .func (PySem.W.fnOf name qual params body scope dV kV doc pm an cdv ct), osl⟩) (hcd : PySem.W.codeIn K cdv qual = true) (S : FnScope N ps scope)
    (len : ∀ vs H Q E, sp vs H Q E → vs.length = ps.length)
    (hbody : ∀ (A : Around) (outer : List Env) (s : Shared) (H : Hp) (vs : List V) (Q : VK) (E : XK), Room k (A.deeper (envOfC qual scope s.heap.objs.size f cdv)) → A.guards = some [] → sp vs H Q E →
      ∃ t, PSs (cxOf CX P w K mg base N qual scope f cdv A outer s H E) body t ∧ t { nx := fun _ H' => Q .non H', rt := Q } (start N vs) H) :
    FnOkG P w K mg base CX (k + 1) f (PySem.W.fnOf name qual params body scope dV kV doc pm an cdv ct) ps sp := by
  refine ⟨len, fun A outer s H args us vs Q E hr hg e0 hb r hsp => ?_⟩
  have hl := len _ _ _ _ hsp
  have KX : K.In s.heap := e0.mod.kin.keeps fun b o e => (e0.bs b o e).1
  have lim : s.heap.NoLimit := e0.mod.nolimit.keeps fun b o e => (e0.bs b o e).1
  refine codeAny_call_function hr.depth (KX _ _ lk) rfl S.co S.gen rfl (PySem.W.codeRec_of KX hcd) (hb _ _ _ _ ?_)
  refine wpAny_newFunctionEnv_cells S.kind (fun ⟨n, v⟩ hy => ?_) fun env he s1 x => ?_
  · rcases S.par n (List.of_mem_zip hy).1 with q | q
    · exact .inl q
    · exact .inr ⟨q, PySem.W.cellsFrom_some _ _ _ (.inl q)⟩
  subst he
  refine ⟨lim.keeps x.toInCall.keep, codeAny_func ?_⟩
  obtain ⟨t, ht, hq⟩ := hbody A outer s H vs Q E (hr.deeper _) hg hsp
  have I : Inv (cxOf CX P w K mg base N qual scope f cdv A outer s H E) [] (start N vs) H s1 := inv_start S hr.hd e0 hl r x
  refine wpAny_mono (ht.run [] s1 (start N vs) H _ I hq) (fun fl s' hs => ?_) fun e s' hs => hs
  cases fl with
  | ret u =>
    obtain ⟨v, σ', H', J, rv, q⟩ := hs
    exact ⟨v, H', J.os, J.bare, J.base, J.hok, rv, q⟩
  | next =>
    obtain ⟨σ', H', J, q⟩ := hs
    exact ⟨.non, H', J.os, J.bare, J.base, J.hok, rfl, q⟩
  | brk =>
    obtain ⟨_, _, _, q⟩ := hs
    exact False.elim q
  | cont =>
    obtain ⟨_, _, _, q⟩ := hs
    exact False.elim q
section
variable {P : Program} {w : World} {K : PySem.W.Frag} {mg : Str → Option Value} {base : Heap}
theorem _root_.L2.Fun.okG {x qual : Str} {st : Stmt} {f : Addr} {fd : FuncData} {N ps : List Str} {k : Nat} {sp : Sp} (F : Fun K x qual st f fd) (S : FnScope N ps (defScope st)) (len : ∀ vs H Q E, sp vs H Q E → vs.length = ps.length)
    (hbody : ∀ (cdv : Value) (A : Around) (outer : List Env) (s : Shared) (H : Hp) (vs : List V) (Q : VK) (E : XK), Room k (A.deeper (envOfC qual (defScope st) s.heap.objs.size f cdv)) → A.guards = some [] → sp vs H Q E →
      ∃ t, PSs (cxOf CX0 P w K mg base N qual (defScope st) f cdv A outer s H E).nox (defBody st) t ∧ t { nx := fun _ H' => Q .non H', rt := Q } (start N vs) H) : FnOkG P w K mg base CX0 (k + 1) f fd ps sp := by
  obtain ⟨oc, od, kV, doc, pm, an, cdv, ct, osl, rfl, lk, hcd⟩ := F.ex
  refine fn_ofG lk hcd S len fun A outer s H vs Q E hr hg hsp => ?_
  obtain ⟨t, h, q⟩ := hbody cdv A outer s H vs Q E hr hg hsp
  exact ⟨t, h.nox, q⟩
end
section
variable {X : Cx} {CX : CXT} {k : Nat} {f : Addr} {fd : FuncData} {ps : List Str} {sp : Sp} {dvs : List V} {ds : List Value} {E : XK} {x : Str} {p pos : Pos} {e : Expr} {es : List Expr} {t : TA}
theorem pe_callG (F : FnOkG X.prog X.w X.K X.mg X.base CX k f fd ps sp) (hr : Room k X.A) (gd : X.A.guards = some []) (hg : Gl X x) (hm : X.mg x = some (.ref f)) (hk : PySem.W.keepIn X.K (.ref f) = true) (hb : Binds X.K fd ps ds) (hd : Vals dvs ds) (hx : Passes CX X E)
    (ha : PA X (e :: es) t) (hdb : (x == ("__debug__" : Str)) = false := by decide) (he : starEach (e :: es) X.env = (false, eval e X.env) :: starEach es X.env := by rfl) (hpl : (backTo pos (starEach es X.env)).any (·.1) = false := by rfl) :
    PE X (.Call (.Name x p) (e :: es) [] pos) (tCall sp dvs E t) := by
  refine ⟨fun pins s σ H Q I h => ?_⟩
  refine wpAny_Call_Name_kw (ld_glob I hg hm ?_ hdb)
  refine PySem.W.callWith_K (h₀ := X.base) I.ok.mod.kin hk (thn (ha.run pos pins s σ H _ I h) fun us s1 ⟨vs, H1, I1, r, q⟩ => ⟨I1.kIn, ?_⟩) he hpl
  have r2 : Vals (vs ++ dvs) (us ++ ds) := r.append hd
  have hl : (us ++ ds).length = ps.length := by rw [← r2.length]; exact F.len _ _ _ _ q
  refine wpAny_call (codeAny_mono (F.run X.A X.stack s1 H1 ⟨us, []⟩ (us ++ ds) (vs ++ dvs) Q E hr gd I1.env0 (hb s1 us I1.kIn hl) r2 q) fun r s' hq => ?_)
  cases r with
  | error e => exact hx pins σ H1 s1 e s' I1 hq
  | ok fl =>
    cases fl with
    | ret u => exact I1.after hq
    | next => exact False.elim hq
    | brk => exact False.elim hq
    | cont => exact False.elim hq
/-- repr of data without dicts -/
def rRepr (K : PySem.W.Frag) : List V → Hp → VK → Prop := fun vs H Q => ∃ (v : V) (d : PyData), vs = [v] ∧ Dp K H v d ∧ d.showable = true ∧ d.hasDict = false ∧ d.depth ≤ 60 ∧ d.shown.length ≤ sizeLine ∧ (∃ a, v = .ref a) ∧ Q (.str d.shown) H
theorem cr_repr (gd : X.A.guards = some []) (hu : X.A.units + 64 < cLine) : CallR X (.builtin "repr") (rRepr X.K) := by
  intro pins s σ H vs us Q I r h
  obtain ⟨v, d, rfl, hd, h1, h2, h3, h4, ⟨a, rfl⟩, q⟩ := h
  rw [Vals.ref1 r]
  obtain ⟨as, rd⟩ := Dp.reads I d (.ref a) (.ref a) hd rfl
  exact repr_of_reads' rd h1 (fun z => by rw [h2] at z; cases z) gd (by omega) (fun b o e => e) (fun h' u tk hk => ⟨.str d.shown, H, I.kept hk, ⟨_, rfl⟩, q⟩) h4
end
/-! ### the head: nothing of repr is under way where the law is called -/
theorem law_callG {P : Program} {w : World} {K : PySem.W.Frag} {mg mb : Str → Option Value} {CX : CXT} {k : Nat} {fa a : Addr} {fd : FuncData} {x : Str} {sp : Sp} {s₁ : Shared} {vs : List Value} {ns : List Int}
    (KX : K.In s₁.heap) (hns : s₁.heap.Ns mainGlobals mg) (hb : s₁.heap.Ns builtinsNs mb) (hbb : ∀ x : Str, x ≠ "__name__" → mb x = bootBuiltins x) (hlim : s₁.heap.NoLimit) (hg : s₁.gens = #[])
    (ha : s₁.heap.get? a = some { cls := .type "list", data := .seq vs.toArray }) (hi : IntsAre vs ns) (hl : ns.length ≤ sizeLine) (hr : Room k callerA)
    (F : ∀ base : Heap, K.In base → base.Ns mainGlobals mg → FnOkG P w K mg base CX k fa fd [x] sp) (hbind : ∀ (s : Shared) (u : Value), BindsTo s fd ⟨[u], []⟩ [(x, u)])
    (hsp : ∀ H : Hp, Only H → SqL K H a (ns.map V.int) → sp [.ref a] H (fun v _ => v = .bl true) fun _ _ _ => False)
    (hCX : ∀ H e s', CX [] H s₁ (fun _ _ _ => False) e s' → False) :
    codeAny (model P w) callerA (.call (.ref fa) ⟨[.ref a], []⟩) (fun r s' => r = .ok (.ret (.bool true)) ∧ OldK s₁.heap s'.heap ∧ s'.os = s₁.os ∧ AllBare s'.gens) s₁ := by
  have rv := vals_ints hi
  have lenV := hi.length
  have core : ∀ H : Hp, Only H → SqL K H a (ns.map V.int) → HOk P w H s₁.heap → (∀ b, H b ≠ none → b = a) → (H a ≠ none → K.lookup a = none) →
      codeAny (model P w) callerA (.call (.ref fa) ⟨[.ref a], []⟩) (fun r s' => r = .ok (.ret (.bool true)) ∧ OldK s₁.heap s'.heap ∧ s'.os = s₁.os ∧ AllBare s'.gens) s₁ := by
    intro H hO hS hok hA hK
    have free : ∀ {b : Addr} {P : Prop}, (∀ u, H b = some u → b = a → P → False) → P → H b = none := fun {b P} h p => by
      cases q : H b with
      | none => rfl
      | some u => exact (h u q (hA b (by rw [q]; simp)) p).elim
    have noA : ∀ {b : Addr} {o : Obj} {es : Array DictEntry} {ep : Nat}, s₁.heap.get? b = some o → o.data = .dict es ep → H b = none := fun {b o es ep} e d => free (P := True) (fun u q e' _ => by
      subst e'
      rw [ha] at e
      cases e
      cases d) trivial
    have nsK : ∀ {b : Addr} {m : Str → Option Value}, s₁.heap.Ns b m → (hidT s₁.heap H).Ns b m := fun {b m} ⟨o, es, ep, e, d, r⟩ => ⟨o, es, ep, hidT_get e (noA e d), d, r⟩
    have hKb : K.In (hidT s₁.heap H) := fun b o e => hidT_get (KX b o e) (free (P := True) (fun u q e' _ => by
      subst e'
      rw [hK (by rw [q]; simp)] at e
      cases e) trivial)
    have hM : Mod K mg (hidT s₁.heap H) := ⟨hKb, nsK hns, ⟨mb, nsK hb, hbb⟩, let ⟨mc, h1, h2⟩ := hlim; ⟨mc, nsK h1, h2⟩⟩
    have e0 : Env0 P w K mg (hidT s₁.heap H) callerA [] s₁ H := ⟨rfl, hM, fun b o e => of_hidT e, Nat.le_of_eq (hidT_size _ _), trivial, fun b hb => absurd (show b ∈ ([] : List Addr) from hb) (by simp), hok, .of_eq hg⟩
    refine codeAny_mono ((F _ hKb (nsK hns)).run callerA [] s₁ H ⟨[.ref a], []⟩ [.ref a] [.ref a] _ _ hr rfl e0 (hbind s₁ (.ref a)) (.cons rfl .nil) (hsp H hO hS)) fun r s' h => ?_
    cases r with
    | error e => exact (hCX H e s' h).elim
    | ok fl =>
      cases fl with
      | next => exact False.elim h
      | brk => exact False.elim h
      | cont => exact False.elim h
      | ret u =>
        obtain ⟨v, H', os, bare, un, hok', r', q⟩ := h
        have q' : v = .bl true := q
        subst q'
        obtain rfl : u = Value.bool true := r'
        refine ⟨rfl, OldK.of_keep fun b o e => ?_, os, bare⟩
        rcases hO b with z | ⟨ob, xs, z⟩
        · exact un.keep b o e z (by intro z; exact absurd (show b ∈ ([] : List Addr) from z) (by simp)) (by simp)
        · have z2 := un.frzs b ob _ z
          obtain ⟨e1, _⟩ := hok b _ z
          obtain ⟨e2, _⟩ := hok' b _ z2
          rw [e] at e1
          cases e1
          exact e2
  cases hk : K.lookup a with
  | some o =>
    have e := KX a o hk
    rw [ha] at e
    cases e
    exact core (fun _ => none) (fun _ => .inl rfl) (.inr ⟨_, vs.toArray, _, hk, rfl, rfl, rfl, by rw [List.size_toArray, lenV]; exact hl, by simpa using rv⟩) (fun b u z => nomatch (show (none : Option HO) = some u from z)) (fun b z => absurd rfl z) fun z => absurd rfl z
  | none =>
    refine core (fun b => if b = a then some (.frz { cls := .type "list", data := .seq vs.toArray } (.lst (ns.map V.int))) else none) (fun b => ?_) (.inl (.inr ⟨{ cls := .type "list", data := .seq vs.toArray }, if_pos rfl⟩)) (fun b u z => ?_) (fun b z => ?_) fun _ => hk
    · by_cases hb : b = a
      · exact .inr ⟨_, _, if_pos hb⟩
      · exact .inl (if_neg hb)
    · by_cases hb : b = a
      · have z' := (if_pos hb).symm.trans z
        cases z'
        subst hb
        exact ⟨ha, by rw [List.length_map]; exact hl, vs, _, rv, ha⟩
      · have z' := (if_neg hb).symm.trans z
        cases z'
    · by_cases hb : b = a
      · exact hb
      · exact absurd (if_neg hb) z
theorem walk_ofG {l : PySem.W.OpenLaw} {n k : Nat} {q : Program} {loose : List Str} {XP : (Str → Option Value) → Heap → Prop} {YP : World → Heap → Prop} {d : DefRec} {K : Params → PySem.W.Frag} {CX : World → CXT} {sp : World → Sp} {x : Str}
    (hn : l.most = some n) (hn2 : n ≤ sizeLine) (hdf : d.params.defaults = []) (hr : Room k callerA)
    (hY : ∀ (w : World) (h : Heap), YP w h → (K w.params).In h)
    (F : ∀ (w : World) (mg : Str → Option Value) (fa : Addr) (h : Heap), (K w.params).In h → h.Ns mainGlobals mg → mg d.name = some (.ref fa) →
      ∃ fd : FuncData, (∀ (s : Shared) (u : Value), BindsTo s fd ⟨[u], []⟩ [(x, u)]) ∧
        ∀ base : Heap, (K w.params).In base → base.Ns mainGlobals mg → FnOkG l.prog w (K w.params) mg base (CX w) k fa fd [x] (sp w))
    (hsp : ∀ (w : World) (H : Hp) (a : Addr) (ns : List Int), ns.length ≤ n → Only H → SqL (K w.params) H a (ns.map V.int) → sp w [.ref a] H (fun v _ => v = .bl true) fun _ _ _ => False)
    (hCX : ∀ (w : World) (H : Hp) (s : Shared) (e : Value) (s' : Shared), CX w [] H s (fun _ _ _ => False) e s' → False) :
    PySem.W.WalkO q loose XP YP l.row.toRowW d [] (fun f vs => PySem.call f vs) := by
  refine Att.attach_call hn hdf fun w s₀ s₁ mg mb fa o pm cd doc a vs ns G Y ho hd hcd hmg hobj hints hlen hg => ?_
  have KX := hY w _ Y
  obtain ⟨fd, hb, hF⟩ := F w mg fa _ KX G.T.g hmg
  exact law_callG KX G.T.g G.T.b G.T.builtins G.T.nolimit hg hobj hints (Nat.le_trans hlen hn2) hr hF hb (fun H hO hS => hsp w H a ns hlen hO hS) fun H e s' => hCX w H s₁ e s'
end My
set_option Elab.async false
set_option linter.all false
set_option maxRecDepth 100000
set_option maxHeartbeats 4000000
/-! sorted(d) of a dict whose keys are ints. -/
namespace My
open PySem PySem.Spec PyProof.Rows L2
theorem len_dict : typeLookup (.type "dict") "__len__" = pure (some (.builtin "dict.__len__")) := by rw [typeLookup_type, builtinLookup_eq_fast]; kernel_rfl
section
variable {prog : Program} {w : World} {A : Around} {E : Value → Shared → Prop} {s : Shared} {d : Addr} {od : Obj} {es : Array DictEntry} {ep : Nat}
theorem dict_hint (hT : s.TypeIs (.ref d) "dict") {Q : Bool → Shared → Prop} (h : Q false s) : wpAny (model prog w) A (Builtin.List.listLengthHint (.ref d)) Q E s := by
  unfold Builtin.List.listLengthHint
  refine wpAny_bind (wpAny_specialOf hT len_dict ?_)
  generalize hid : ("dict.__len__" : String) = id0
  wp_delta
  rw [show splitId id0 = some ("dict", "__len__") from by subst hid; decide +kernel]
  subst hid
  refine wpAny_bind (wpAny_isInstance (T := "dict") (b := true) hT (by rw [isSubtype_type]; kernel_rfl) ?_)
  refine wpAny_ite_split (fun hab => absurd hab (by decide)) (fun _ => ?_)
  refine wpAny_ite_split (fun _ => ?_) (fun hab => absurd (by decide +kernel) hab)
  refine wpAny_bind (wpAny_typeOf hT ?_)
  exact wpAny_pure h
/-- the loop that takes the keys -/
theorem loopD {R : Result → Shared → Prop} {S I : Addr} (hh : A.handled = none) (hSI : S ≠ I) (hSd : d ≠ S) (hId : d ≠ I) (hn : es.size ≤ sizeLine) (res : Value) {h₁ : Heap} (hdd : od.data = .dict es ep)
    (hR : ∀ h' c, (∀ b o, b ≠ S → b ≠ I → h₁.get? b = some o → h'.get? b = some o) → h'.get? S = some { cls := .type "list", dict := none, data := .seq (es.map (·.key)) c, slots := #[] } → R (.ok (.ret res)) { s with heap := h' }) :
    ∀ (k i : Nat) (h : Heap) (c : Nat) (acc : Array Value), es.size - i = k → i ≤ es.size → h.IsKeyIter I d i es.size ep → h.get? d = some od → (∀ b o, b ≠ S → b ≠ I → h₁.get? b = some o → h.get? b = some o) →
      h.get? S = some { cls := .type "list", dict := none, data := .seq acc c, slots := #[] } → acc.toList = (es.toList.take i).map (·.key) →
      codeAny (model prog w) A (.builtin "list.extend.loop" ⟨[.ref S, .ref I, res], []⟩) R { s with heap := h } := by
  intro k
  induction k with
  | zero =>
    intro i h c acc hk hi hst hD hkeep hS hacc
    refine codeAny_builtin PySem.F.entry_extend_loop ?_
    rw [Around.under_plainId PySem.F.plain_extend_loop _]
    show wpAny _ A.in1 (pyNext (.ref I) >>= _) _ _ _
    refine wpAny_bind (next_key_end (s := { s with heap := h }) (A := A.in1) hh hst hD hdd rfl (by omega) fun h' he => ?_)
    have ea : acc = es.map (·.key) := by
      apply Array.toList_inj.mp
      rw [hacc, List.take_of_length_le (by rw [Array.length_toList]; omega), Array.toList_map]
    rw [ea] at hS
    exact wpAny_pure (hR h' c (fun b o h1 h2 e => he b o h2 (hkeep b o h1 h2 e)) (he S _ hSI hS))
  | succ k ih =>
    intro i h c acc hk hi hst hD hkeep hS hacc
    have hlt : i < es.size := by omega
    have hsz : acc.size = i := by rw [← Array.length_toList, hacc, List.length_map, List.length_take, Array.length_toList]; omega
    refine codeAny_builtin PySem.F.entry_extend_loop ?_
    rw [Around.under_plainId PySem.F.plain_extend_loop _]
    show wpAny _ A.in1 (pyNext (.ref I) >>= _) _ _ _
    refine wpAny_bind (next_key_item (s := { s with heap := h }) (en := es[i]) hst hD hdd rfl (Array.getElem?_eq_getElem hlt) fun h' hst' hs' => ?_)
    have hS' := hs'.extBut S _ hSI hS
    have up : ∀ b o, b ≠ S → h'.get? b = some o → (h'.update S (Obj.mapSeq (·.push es[i].key))).get? b = some o := fun b o hb e => (Heap.get?_update_other _ _ (Ne.symm hb)).trans e
    show wpAny _ A.in1 (updateSeq S (·.push es[i].key) >>= _) _ _ _
    refine wpAny_bind ?_
    refine wpAny_updateSeq hS' rfl (wpAny_pure ⟨plainId_quiet PySem.F.plain_extend_loop _, ih (i + 1) _ _ (acc.push es[i].key) (by omega) hlt (hst'.at fun o e => up _ o hSI.symm e) (up d _ hSd (hs'.extBut d _ hId hD))
      (fun b o h1 h2 e => up b o h1 (hs'.extBut b _ h2 (hkeep b o h1 h2 e))) (Heap.get?_update_self _ hS' rfl) ?_⟩) (by rw [hsz]; omega) (by show (acc.push es[i].key).size ≤ sizeLine + 1; rw [Array.size_push, hsz]; omega)
    rw [Array.toList_push, hacc, List.take_add_one, Array.getElem?_toList, Array.getElem?_eq_getElem hlt, List.map_append]
    rfl
theorem extD {R : Result → Shared → Prop} {P2 : Program} {κ : Type} [DecidableEq κ] {knd : PySem.KeyKind prog w κ} {kvs : List (κ × Value)} (hh : A.handled = none) (hsys : (d == sysModules) = false) (hm : s.heap.DictAt knd d kvs ep) (ho : s.heap.get? d = some od) (hdd : od.data = .dict es ep) (hk : kvs.length = es.size) (S : Addr) (hSd : d ≠ S) (res : Value) (c₀ : Nat) (hS : s.heap.get? S = some { cls := .type "list", data := .seq #[] c₀ })
    (hR : ∀ h' c, (∀ b o, b ≠ S → s.heap.get? b = some o → h'.get? b = some o) → h'.get? S = some { cls := .type "list", dict := none, data := .seq (es.map (·.key)) c, slots := #[] } → R (.ok (.ret res)) { s with heap := h' }) (hn : es.size ≤ sizeLine) :
    wpAny (model prog w) A.in1 (Builtin.List.listExtendWith (.ref S) (.ref d) res)
      (fun fin s' => match fin with | .done f => R (.ok f) s' | .again c' => c'.quiet = true ∧ codeAny (model prog w) A c' R s') (fun e s' => R (.error e) s') s := by
  have hSI : S < s.heap.objs.size := Heap.lt_size hS
  have hdI : d < s.heap.objs.size := Heap.lt_size ho
  have hT : s.TypeIs (.ref d) "dict" := hm.dictOf.typeIs
  have key : ∀ (h : Heap) (c₁ : Nat), (∀ b o, b ≠ S → (s.heap.push { cls := .type "dict_keyiterator", data := .fields #[.ref d, .int 0 0, .int kvs.length 0, .int ep 0] }).get? b = some o → h.get? b = some o) →
      h.get? S = some { cls := .type "list", data := .seq #[] c₁ } → codeAny (model prog w) A (.builtin "list.extend.loop" ⟨[.ref S, .ref s.heap.objs.size, res], []⟩) R { s with heap := h } := by
    intro h c₁ hk' hS₁
    have hI := hk' s.heap.objs.size _ (Nat.ne_of_gt hSI) (Heap.get?_push_size _ rfl)
    rw [hk] at hI
    exact loopD (s := s) (h₁ := s.heap) hh (Nat.ne_of_lt hSI) hSd (Nat.ne_of_lt hdI) hn res hdd (fun h' c hk2 hS2 => hR h' c (fun b o hb e => hk2 b o hb (Nat.ne_of_lt (Heap.lt_size e)) e) hS2)
      es.size 0 h c₁ #[] (Nat.sub_zero _) (Nat.zero_le _) ⟨_, hI, rfl, rfl⟩ (hk' d _ hSd (Heap.get?_push_of_some _ ho)) (fun b o hb _ e => hk' b o hb (Heap.get?_push_of_some _ e)) hS₁ rfl
  unfold Builtin.List.listExtendWith
  refine wpAny_bind (wpAny_typeOf (T := "dict") hT ?_)
  have h1 : Builtin.List.listSameRef (.ref S) (.ref d) = false := by simp [Builtin.List.listSameRef, Ne.symm hSd]
  have h2 : (Value.type "dict" == Value.type "list") = false := by decide
  have h3 : (Value.type "dict" == Value.type "tuple") = false := by decide
  simp only [h1, h2, h3, Bool.or_false, Bool.false_eq_true, if_false]
  refine wpAny_bind (wpAny_pyIter_dict hsys hm ?_)
  have hS₁ := Heap.get?_push_of_some { cls := .type "dict_keyiterator", data := .fields #[.ref d, .int 0 0, .int kvs.length 0, .int ep 0] } hS
  refine wpAny_bind (wpAny_holding (dict_hint (let ⟨o, ho, hc⟩ := hT; ⟨o, Heap.get?_push_of_some _ ho, hc⟩) ?_))
  refine wpAny_ite_split (fun _ => ?_) (fun _ => wpAny_pure ⟨plainId_quiet PySem.F.plain_extend_loop _, key _ c₀ (fun b o _ e => e) hS₁⟩)
  refine wpAny_bind (wpAny_rule ?_)
  refine wpAny_bind ?_
  show wpAny _ _ (updateSeq S (·.push .none) >>= fun _ => updateSeq S (·.pop)) _ _ _
  refine wpAny_bind (wpAny_updateSeq hS₁ rfl ?_)
  have hS₂ := Heap.get?_update_self (Obj.mapSeq (·.push Value.none)) hS₁ rfl
  refine wpAny_updateSeq (hz := by seq_fits) hS₂ rfl ?_
  have hS₃ := Heap.get?_update_self (Obj.mapSeq (·.pop)) hS₂ rfl
  refine wpAny_pure ⟨plainId_quiet PySem.F.plain_extend_loop _, key _ _ (fun b o hb e => ?_) hS₃⟩
  exact (Heap.get?_update_other _ _ (Ne.symm hb)).trans ((Heap.get?_update_other _ _ (Ne.symm hb)).trans e)
theorem collectD {R : List Value → Shared → Prop} {κ : Type} [DecidableEq κ] {knd : PySem.KeyKind prog w κ} {kvs : List (κ × Value)} (hh : A.handled = none) (hsys : (d == sysModules) = false) (hm : s.heap.DictAt knd d kvs ep) (ho : s.heap.get? d = some od) (hdd : od.data = .dict es ep) (hk : kvs.length = es.size) (hn : es.size ≤ sizeLine)
    (h : ∀ (h' : Heap), (∀ b o, s.heap.get? b = some o → h'.get? b = some o) → s.heap.objs.size < h'.objs.size → R (es.toList.map (·.key)) { s with heap := h' }) :
    wpAny (model prog w) A (collect (.ref d)) R E s := by
  have hd : d < s.heap.objs.size := Heap.lt_size ho
  unfold collect
  refine wpAny_bind (wpAny_runValue (codeAny_builtin entry_proto_collect' ?_))
  rw [Around.under_plainId PySem.F.plain_proto_collect _]
  show wpAny _ A.in1 (newList [] >>= fun l => again (.builtin "list.__iadd__" ⟨[l, .ref d], []⟩)) _ _ s
  refine wpAny_bind (wpAny_newObj_type ?_)
  refine wpAny_pure ⟨plainId_quiet PySem.F.plain_list_iadd _, codeAny_builtin entry_list_iadd' ?_⟩
  rw [Around.under_plainId PySem.F.plain_list_iadd _]
  have hS₁ : (s.heap.push { cls := .type "list", data := .seq ([] : List Value).toArray }).get? s.heap.objs.size = some { cls := .type "list", data := .seq #[] } := Heap.get?_push_size _ rfl
  show wpAny _ A.in1 (Builtin.List.listExtendWith (.ref s.heap.objs.size) (.ref d) (.ref s.heap.objs.size)) _ _ _
  have key := extD (prog := prog) (w := w) (A := A) (P2 := prog) (s := { s with heap := s.heap.push { cls := .type "list", data := .seq ([] : List Value).toArray } }) (es := es) (ep := ep) (od := od) (knd := knd) (kvs := kvs)
    (R := fun (q : Result) (s' : Shared) => ∃ (h' : Heap) (c' : Nat), q = .ok (.ret (.ref s.heap.objs.size)) ∧ s' = { s with heap := h' } ∧
      (∀ b o, s.heap.get? b = some o → h'.get? b = some o) ∧ h'.get? s.heap.objs.size = some { cls := .type "list", dict := none, data := .seq (es.map (·.key)) c', slots := #[] })
    hh hsys (hm.push _) (Heap.get?_push_of_some _ ho) hdd hk s.heap.objs.size (Nat.ne_of_lt hd) (.ref s.heap.objs.size) 0 hS₁
    (fun h' c' hk2 hS' => ⟨h', c', rfl, rfl, fun b o e => hk2 b o (Nat.ne_of_lt (Heap.lt_size e)) (Heap.get?_push_of_some _ e), hS'⟩) hn
  have fin : ∀ (h' : Heap) (c' : Nat), (∀ b o, s.heap.get? b = some o → h'.get? b = some o) → h'.get? s.heap.objs.size = some { cls := .type "list", dict := none, data := .seq (es.map (·.key)) c', slots := #[] } → R (es.map (·.key)).toList { s with heap := h' } := fun h' c' hk2 hS' => by
    rw [Array.toList_map]
    exact h h' hk2 (Heap.lt_size hS')
  refine wpAny_mono key (fun fn s' x => ?_) fun e s' x => ?_
  · cases fn with
    | done f =>
      obtain ⟨h', c', e, rfl, hk2, hS'⟩ := x
      cases e
      show wpAny _ A (load s.heap.objs.size >>= _) _ _ _
      refine wpAny_bind (wpAny_load hS' ?_)
      exact wpAny_pure (fin h' c' hk2 hS')
    | again c₁ =>
      refine ⟨x.1, codeAny_mono x.2 fun q s₂ y => ?_⟩
      obtain ⟨h', c', rfl, rfl, hk2, hS'⟩ := y
      show wpAny _ A (load s.heap.objs.size >>= _) _ _ _
      refine wpAny_bind (wpAny_load hS' ?_)
      exact wpAny_pure (fin h' c' hk2 hS')
  · obtain ⟨_, _, e', _⟩ := x
    cases e'
end
section
variable {X : Cx}
theorem keys_of {P : Program} {w : World} : ∀ {es : List DictEntry} {kvs : List (Key × Value)}, Pairs (mixKind P w) es kvs → es.length = kvs.length ∧ ∀ ns : List Int, kvs.map (·.1) = ns.map Sum.inl → IntsAre (es.map (·.key)) ns
  | _, _, .nil => ⟨rfl, fun ns h => by
    cases ns with
    | nil => exact .nil
    | cons n ns => cases h⟩
  | _, _, .cons hk hv hp => by
    obtain ⟨h1, h2⟩ := keys_of hp
    refine ⟨by simp [h1], fun ns h => ?_⟩
    cases ns with
    | nil => cases h
    | cons n ns =>
      injection h with e1 e2
      dsimp only at e1
      rcases keyIs_shape hk with ⟨i, t, h3, h4⟩ | ⟨x, t, h3, h4⟩
      · rw [h3] at e1
        cases e1
        rw [List.map_cons, h4]
        exact .cons _ _ (h2 ns e2)
      · rw [h3] at e1
        cases e1
/-- sorted(d), the keys ints -/
def rSortedD : List V → Hp → VK → Prop := fun vs H Q => ∃ (a : Addr) (kvs : List (Key × V)) (ns : List Int), vs = [V.ref a] ∧ H a = some (.dK kvs) ∧ kvs.map (·.1) = ns.map Sum.inl ∧ ∀ ns' : List Int, ns'.Perm ns → ns'.Pairwise (· ≤ ·) → New (.lst (ns'.map V.int)) H Q
theorem cr_sortedD (hc : X.calm = true) : CallR X (.builtin "sorted") rSortedD := by
  intro pins s σ H vs us Q I r h
  obtain ⟨a, kvs, ns, rfl, ha, hk, q⟩ := h
  rw [Vals.ref1 r]
  obtain ⟨z, hsys, vs, rel, dd⟩ := dk_of I.hok ha
  obtain ⟨ep, dat⟩ := dd.dictAt
  obtain ⟨od, es, ho, hex, hdat, hks, hp, hnd⟩ := id dat
  obtain ⟨l1, hi⟩ := keys_of hp
  have ek : vs.map (·.1) = kvs.map (·.1) := by
    have : ∀ {kvs : List (Key × V)} {vs : List (Key × Value)}, KV kvs vs → vs.map (·.1) = kvs.map (·.1) := fun rel => by
      induction rel with
      | nil => rfl
      | cons h _ ih => rw [List.map_cons, List.map_cons, ih, h.1]
    exact this rel
  have hI := hi ns (ek.trans hk)
  have lk : vs.length = es.size := by rw [← l1, Array.length_toList]
  have lz : es.size ≤ sizeLine := by
    rw [← lk, ← List.length_map (f := (·.1)), ek, List.length_map]
    exact z
  refine Calls.call_function_entry kind_sorted plain_sorted entry_sorted (args_sorted1 _) ?_
  unfold Builtin.«sorted»
  refine wpAny_bind (m := checkCount "sorted" 1 1 _) (wpAny_pure ?_)
  refine wpAny_bind (collectD (A := X.A.in1) (I.ok.hd hc) hsys dat ho hdat lk lz fun h' hk' hlt => ?_)
  refine wpAny_bind (wpAny_newList ?_ (by rw [List.length_map, Array.length_toList]; exact lz))
  have hoL : (h'.push (seqObj "list" (es.toList.map (·.key)).toArray 0)).get? h'.objs.size = some (seqObj "list" (es.toList.map (·.key)).toArray 0) := Heap.get?_push_size _ rfl
  refine wpAny_bind (wpAny_holding (wpAny_call_entry PyProof.Rows.slot_list_sort ⟨_, hoL, rfl⟩ PyProof.Rows.entry_list_sort
    (SrtO.list_sort_ord SrtO.swo_int hoL (by rw [List.length_map, Array.length_toList]; exact lz) (fun h2 => SrtO.ints_sortable hI h2) fun out h1 h2 => ⟨_, rfl, ?_⟩) (PyProof.Rows.args_list_sort _)))
  obtain ⟨k1, k2, k3⟩ := SrtO.ints_out hI h1 h2
  obtain ⟨c, hc'⟩ := sortedHeap_at (vs := es.toList.map (·.key)) (out := out.toArray) hoL
  have hlen : ((out.map SrtO.iv).map V.int).length ≤ sizeLine := by
    rw [List.length_map, k2.length_eq, ← hI.length, List.length_map, Array.length_toList]
    exact lz
  have hle : s.heap.objs.size ≤ h'.objs.size := Nat.le_of_lt hlt
  have hn : H h'.objs.size = none := I.hok.fresh hle
  refine wpAny_pure ⟨_, rfl, .ref _, upd H h'.objs.size (.lst ((out.map SrtO.iv).map V.int)), I.laid (t' := s.toks) (fun b o e => ?_) hle ⟨hlen, out, c, vals_of_ints k1, hc'⟩, rfl, (q _ k2 k3).go _ hn⟩
  have e1 := hk' b o e
  have hb := Heap.lt_size e1
  rw [sortedHeap_old (Nat.ne_of_lt hb) (by rw [Heap.size_push]; exact Nat.lt_succ_of_lt hb)]
  exact Heap.get?_push_of_some _ e1
end
end My
set_option Elab.async false
set_option linter.all false
set_option maxRecDepth 100000
set_option maxHeartbeats 4000000
/-! dicts with int keys, as a list of keys and a function. -/
namespace My
open PySem L2
def kvsOf (ns : List Int) (g : Int → V) : List (Key × V) := ns.map fun n => (Sum.inl n, g n)
theorem kvs_keys (ns : List Int) (g : Int → V) : (kvsOf ns g).map (·.1) = ns.map Sum.inl := by
  unfold kvsOf
  rw [List.map_map]
  rfl
theorem kvs_len (ns : List Int) (g : Int → V) : (kvsOf ns g).length = ns.length := by
  unfold kvsOf
  rw [List.length_map]
theorem kvs_congr {ns : List Int} {g g' : Int → V} (h : ∀ n ∈ ns, g n = g' n) : kvsOf ns g = kvsOf ns g' := by
  unfold kvsOf
  exact List.map_congr_left fun n hn => by rw [h n hn]
theorem valV_kvs (g : Int → V) (k : Int) : ∀ ns : List Int, valV (kvsOf ns g) (Sum.inl k) = if k ∈ ns then some (g k) else none
  | [] => rfl
  | n :: ns => by
    show valV ((Sum.inl n, g n) :: kvsOf ns g) (Sum.inl k) = _
    by_cases e : n = k
    · subst e
      rw [valV_pos rfl, if_pos List.mem_cons_self]
    · rw [valV_neg (fun z => e (Sum.inl.inj z)), valV_kvs g k ns]
      by_cases m : k ∈ ns
      · rw [if_pos m, if_pos (List.mem_cons_of_mem _ m)]
      · rw [if_neg m, if_neg (fun z => by
          rcases List.mem_cons.mp z with z | z
          · exact e z.symm
          · exact m z)]
theorem any_kvs (g : Int → V) (k : Int) (ns : List Int) : ((kvsOf ns g).any fun kv => decide (kv.1 = Sum.inl k)) = decide (k ∈ ns) := by
  unfold kvsOf
  rw [List.any_map, Bool.eq_iff_iff, List.any_eq_true]
  constructor
  · rintro ⟨n, hn, e⟩
    have : n = k := by simpa using e
    subst this
    exact decide_eq_true hn
  · intro h
    exact ⟨k, of_decide_eq_true h, by simp⟩
theorem putK_kvs (g : Int → V) (k : Int) (v : V) (ns : List Int) : putK (kvsOf ns g) (Sum.inl k) v = kvsOf (if k ∈ ns then ns else ns ++ [k]) (fun n => if n = k then v else g n) := by
  unfold putK
  rw [any_kvs]
  by_cases m : k ∈ ns
  · rw [decide_eq_true m, if_pos rfl, if_pos m]
    unfold kvsOf
    rw [List.map_map]
    refine List.map_congr_left fun n hn => ?_
    show (if (Sum.inl n : Key) = Sum.inl k then ((Sum.inl n : Key), v) else (Sum.inl n, g n)) = (Sum.inl n, if n = k then v else g n)
    by_cases e : n = k
    · rw [if_pos (by rw [e]), if_pos e]
    · rw [if_neg (fun z => e (Sum.inl.inj z)), if_neg e]
  · rw [decide_eq_false m, if_neg Bool.false_ne_true, if_neg m]
    unfold kvsOf
    rw [List.map_append]
    congr 1
    · refine List.map_congr_left fun n hn => ?_
      have z : ¬ n = k := fun z => m (by rw [← z]; exact hn)
      show (Sum.inl n, g n) = (Sum.inl n, if n = k then v else g n)
      rw [if_neg z]
    · show [(Sum.inl k, v)] = [(Sum.inl k, if k = k then v else g k)]
      rw [if_pos rfl]
theorem dropK_kvs (g : Int → V) (k : Int) (ns : List Int) : dropK (kvsOf ns g) (Sum.inl k) = kvsOf (ns.filter fun n => decide (n ≠ k)) g := by
  unfold dropK kvsOf
  rw [List.filter_map]
  congr 1
  refine List.filter_congr fun n hn => ?_
  show decide ((Sum.inl n : Key) ≠ Sum.inl k) = decide (n ≠ k)
  rw [decide_eq_decide]
  exact ⟨fun h e => h (by rw [e]), fun h e => h (Sum.inl.inj e)⟩
theorem put_nodup {ns : List Int} (h : ns.Nodup) (k : Int) : (if k ∈ ns then ns else ns ++ [k]).Nodup := by
  split
  · exact h
  · rename_i m
    rw [List.nodup_append]
    exact ⟨h, by simp, fun a ha b hb => by
      have : b = k := by simpa using hb
      subst this
      exact fun e => m (e ▸ ha)⟩
theorem mem_put {ns : List Int} {k r : Int} : r ∈ (if k ∈ ns then ns else ns ++ [k]) ↔ r ∈ ns ∨ r = k := by
  split
  · rename_i m
    exact ⟨.inl, fun h => h.elim id fun e => e ▸ m⟩
  · simp
/-- two ascending lists without doubles of the same members are one -/
theorem asc_unique : ∀ {l m : List Int}, l.Pairwise (· < ·) → m.Pairwise (· < ·) → (∀ r, r ∈ l ↔ r ∈ m) → l = m
  | [], [], _, _, _ => rfl
  | [], y :: m, _, _, h => by
    have := (h y).mpr List.mem_cons_self
    cases this
  | x :: l, [], _, _, h => by
    have := (h x).mp List.mem_cons_self
    cases this
  | x :: l, y :: m, h1, h2, h => by
    obtain ⟨a1, a2⟩ := List.pairwise_cons.mp h1
    obtain ⟨b1, b2⟩ := List.pairwise_cons.mp h2
    have e : x = y := by
      rcases List.mem_cons.mp ((h x).mp List.mem_cons_self) with z | z
      · exact z
      · rcases List.mem_cons.mp ((h y).mpr List.mem_cons_self) with z' | z'
        · exact z'.symm
        · have := b1 x z
          have := a1 y z'
          omega
    subst e
    rw [asc_unique a2 b2 fun r => ?_]
    constructor
    · intro hr
      rcases List.mem_cons.mp ((h r).mp (List.mem_cons_of_mem _ hr)) with z | z
      · have := a1 r hr
        omega
      · exact z
    · intro hr
      rcases List.mem_cons.mp ((h r).mpr (List.mem_cons_of_mem _ hr)) with z | z
      · have := b1 r hr
        omega
      · exact z
theorem asc_of {ns ns' : List Int} (hp : ns'.Perm ns) (hs : ns'.Pairwise (· ≤ ·)) (hn : ns.Nodup) : ns'.Pairwise (· < ·) := by
  have hn' : ns'.Nodup := hp.nodup_iff.mpr hn
  exact (List.Pairwise.and hs hn').imp fun ⟨h1, h2⟩ => by omega
end My
namespace My
open PySem L2
/-- a dict comprehension over any walk -/
theorem dc_it {J : It} {n : Nat} {G : Hp → Prop} {Y : Nat → Hp → V → Hp → Prop} (w : Walk J n G Y) {g : TG} {tt : TT} {tk tv : TE} {vs : List Nat} {σ : L2.St} {H1 : Hp} {D : Addr} {Qd : Hp → Prop} (Pv : Nat → Hp → Prop) (h0 : Pv 0 (upd H1 D (.dK []))) (hG : ∀ i H, i ≤ n → Pv i H → G H)
    (hs : ∀ i x H H', i < n → Pv i H → Y i H x H' → g x (wipe σ vs) H' fun σ2 H2 => wipe σ2 vs = wipe σ vs ∧ tt σ2 H2 fun b H3 =>
      if b = true then tk σ2 H3 fun y H4 => tv σ2 H4 fun z H5 => ∃ kvs k, y = kV k ∧ H5 D = some (.dK kvs) ∧ kvs.length < sizeLine ∧ Pv (i + 1) (upd H5 D (.dK (putK kvs k z))) else Pv (i + 1) H3) (hd : ∀ H, Pv n H → Qd H) :
    ∃ W : Nat → Nat → Hp → Prop, (∃ m, W 0 m (upd H1 D (.dK []))) ∧ ∀ i m H, W i m H →
      (J.stop i H ∧ Qd H) ∨ (J.go i H ∧ ∃ Nx : Hp → Prop, (∀ H', Nx H' → ∃ m', m' < m ∧ W (i + 1) m' H') ∧ ∀ x H', J.yld i H x H' → g x (wipe σ vs) H' fun σ2 H2 => wipe σ2 vs = wipe σ vs ∧ tt σ2 H2 fun b H3 =>
        if b = true then tk σ2 H3 fun y H4 => tv σ2 H4 fun z H5 => ∃ kvs k, y = kV k ∧ H5 D = some (.dK kvs) ∧ kvs.length < sizeLine ∧ Nx (upd H5 D (.dK (putK kvs k z))) else Nx H3) := by
  refine ⟨fun i m H => m = n - i ∧ i ≤ n ∧ Pv i H, ⟨n, by simp, Nat.zero_le _, h0⟩, ?_⟩
  rintro i m H ⟨rfl, hi, p⟩
  have q := hG i H hi p
  by_cases hlt : i < n
  · exact .inr ⟨w.goes i H hlt q, Pv (i + 1), fun H' p' => ⟨n - (i + 1), by omega, rfl, hlt, p'⟩, fun x H' y => hs i x H H' hlt p (w.yields i H x H' hlt q y)⟩
  · have e : i = n := by omega
    subst e
    exact .inl ⟨w.stops H q, hd H p⟩
end My
namespace My
open PySem PySem.Spec PyProof.Rows L2
section
variable {X : Cx}
/-- x = {k: v for ..} -/
theorem ps_setDc {i : Nat} {y : Str} {py : Pos} {kx vx tg iter : Expr} {ifs : List Expr} {scope : Scope} {own : List (Str × Nat)} {pos spos : Pos} {wi : TI} {g : TG} {tt : TT} {tk tv : TE} (hc : X.calm = true) (hN : X.N.Nodup) (hy : X.N[i]? = some y) (hyl : X.env.scope.names.lookup y = some .local)
    (hsw : swapsWith (.DictComp kx vx [⟨tg, iter, ifs, 0⟩] scope pos) (some (.Name y py)) spos.line X.env = pure true) (hi : PI X tg iter wi) (ok : BlkOk X.N X.env.scope scope own)
    (hg : ∀ (s : Shared) (H : Hp) (C : Addr) (cl : List (Str × Addr)) (fp : List Addr), PG (X.blk s H scope (compEnvC scope cl C X.env) fp) tg g) (ht : ∀ (s : Shared) (H : Hp) (C : Addr) (cl : List (Str × Addr)) (fp : List Addr), PTs (X.blk s H scope (compEnvC scope cl C X.env) fp) ifs tt)
    (hk : ∀ (s : Shared) (H : Hp) (C : Addr) (cl : List (Str × Addr)) (fp : List Addr), PE (X.blk s H scope (compEnvC scope cl C X.env) fp) kx tk)
    (he : ∀ (s : Shared) (H : Hp) (C : Addr) (cl : List (Str × Addr)) (fp : List Addr), PE (X.blk s H scope (compEnvC scope cl C X.env) fp) vx tv) (hs : ∀ x, foldedSetIterable iter X.env x = pure x := by intro _; rfl) :
    PS X (.Assign [.Name y py] (.DictComp kx vx [⟨tg, iter, ifs, 0⟩] scope pos) spos) (tAsg (tDc wi g tt tk tv (own.map (·.2))) (gName i)) := by
  refine ⟨fun pins s σ H D I h => ?_⟩
  rw [exec_Assign_Name_used _ _ _ _ hsw]
  refine wpAny_bind (wpAny_standAt (wpAny_bind ?_))
  show wpAny _ X.A (do let _ ← comprehension (.DictComp kx vx [⟨tg, iter, ifs, 0⟩] scope pos) scope X.env (firstIterPos [⟨tg, iter, ifs, 0⟩] pos) newDict false (eval iter X.env) (some (assign (.Name y py) X.env))) _ _ s
  have h : tDc wi g tt tk tv (own.map (·.2)) σ H (fun x H1 => gName i x σ H1 D.nx) := h
  refine wpAny_bind (thn (dc_core (Qf := fun _ s' => SP X pins D .next s') hc hN I hi ok hg ht hk he hs h fun L C s' m H' I' q hn f => ?_) fun _ s' hq => wpAny_pure (wpAny_pure hq))
  show wpAny _ _ (assign (.Name y py) X.env (.ref L)) _ _ _
  refine wpAny_assign_Name (store_ok2 (v := V.ref L) I' hN hy (.inl hyl) rfl (fun s2 I2 ⟨a, sb, ha⟩ => ?_) (.inr hyl))
  obtain ⟨f0, f1, f2, f3, f4, f5⟩ := f
  have haC : C ≠ a := by
    rcases ha with z | z
    · rw [z]; exact f1
    · exact fun e => f4 y a z e.symm
  refine ⟨m, hn.sameBut sb haC, fun h3 sb3 => ?_⟩
  exact ⟨_, H', I2.turned (t' := s2.toks) (fun b o hb e => (sb3.2 b hb).trans e) f0 f1 f3 f4 f5, q⟩
theorem sw_trueD {kx vx : Expr} {gs : List Comprehension} {scope : Scope} {pos py : Pos} {y : Str} {l : Nat} {env : Env} (hk : env.scope.kind = .function) (hy : env.scope.names.lookup y = some .local) (hl : (py.line == pos.line) = true)
    (ha : (scope.names.any fun (n, k) => n == y && (k == .local || k == .cell)) = false) : swapsWith (.DictComp kx vx gs scope pos) (some (.Name y py)) l env = pure true := by
  have ky : env.kindOf y = some .local := hy
  have hb : env.blockKind = .function := by unfold Env.blockKind; rw [hk]; rfl
  unfold swapsWith
  simp only [hb, ky, ha, Expr.pos, hl]
  rfl
end
end My
namespace My
open PySem L2
theorem cut_mid (xs : List V) {n m : Nat} (h : m ≤ xs.length) : cutV xs (some (n : Int)) (some (m : Int)) = (xs.drop n).take (m - n) := by
  unfold cutV
  rw [HT.sIx_nat, HT.sIx_nat, Nat.min_eq_left h]
  by_cases h2 : n ≤ xs.length
  · rw [Nat.min_eq_left h2]
  · rw [Nat.min_eq_right (by omega), List.drop_eq_nil_of_le (Nat.le_refl _), List.drop_eq_nil_of_le (by omega), List.take_nil, List.take_nil]
theorem nodup_len : ∀ {l m : List Int}, l.Nodup → (∀ r ∈ l, r ∈ m) → l.length ≤ m.length
  | [], _, _, _ => Nat.zero_le _
  | x :: l, m, h, s => by
    obtain ⟨h1, h2⟩ := List.nodup_cons.mp h
    have hx := s x List.mem_cons_self
    have := nodup_len (m := m.erase x) h2 fun r hr => (List.mem_erase_of_ne (fun e : r = x => h1 (by rw [← e]; exact hr))).mpr (s r (List.mem_cons_of_mem _ hr))
    rw [List.length_erase_of_mem hx] at this
    have : 0 < m.length := List.length_pos_of_mem hx
    rw [List.length_cons]
    omega
/-- the keys of a dict of marks -/
structure FdOk (f : Int → Bool) (dom ks : List Int) : Prop where
  nd : ks.Nodup
  is : ∀ r, r ∈ ks ↔ f r = true
  dm : ∀ r ∈ ks, r ∈ dom
theorem FdOk.len {f : Int → Bool} {dom ks : List Int} (h : FdOk f dom ks) : ks.length ≤ dom.length := nodup_len h.nd h.dm
theorem FdOk.congr {f g : Int → Bool} {dom ks : List Int} (h : FdOk f dom ks) (e : ∀ r, f r = g r) : FdOk g dom ks := ⟨h.nd, fun r => by rw [h.is, e], h.dm⟩
theorem FdOk.put {f : Int → Bool} {dom ks : List Int} (h : FdOk f dom ks) {k : Int} (hk : k ∈ dom) : FdOk (fun r => if r = k then true else f r) dom (if k ∈ ks then ks else ks ++ [k]) :=
  ⟨put_nodup h.nd k, fun r => by
    rw [mem_put, h.is]
    by_cases e : r = k
    · simp [e]
    · simp [e], fun r hr => by
    rcases mem_put.mp hr with z | z
    · exact h.dm r z
    · exact z ▸ hk⟩
theorem FdOk.drop {f : Int → Bool} {dom ks : List Int} (h : FdOk f dom ks) (k : Int) : FdOk (fun r => if r = k then false else f r) dom (ks.filter fun n => decide (n ≠ k)) :=
  ⟨h.nd.sublist List.filter_sublist, fun r => by
    rw [List.mem_filter, h.is]
    by_cases e : r = k
    · simp [e]
    · simp [e], fun r hr => h.dm r (List.mem_filter.mp hr).1⟩
abbrev tt : Int → V := fun _ => .bl true
theorem putK_tt (k : Int) (ks : List Int) : putK (kvsOf ks tt) (Sum.inl k) (.bl true) = kvsOf (if k ∈ ks then ks else ks ++ [k]) tt := by
  rw [putK_kvs]
  exact kvs_congr fun n _ => by
    show (if n = k then V.bl true else .bl true) = .bl true
    split <;> rfl
theorem kvs_snoc (ks : List Int) (g : Int → V) (k : Int) (h : k ∉ ks) : putK (kvsOf ks g) (Sum.inl k) (g k) = kvsOf (ks ++ [k]) g := by
  rw [putK_kvs, if_neg h]
  exact kvs_congr fun n _ => by
    show (if n = k then g k else g n) = g n
    split
    · rename_i e
      rw [e]
    · rfl
theorem nodup_inj {ns : List Int} (h : ns.Nodup) {i j : Nat} (hi : i < ns.length) (hj : j < ns.length) (e : ns[i] = ns[j]) : i = j := by
  have hp := List.pairwise_iff_getElem.mp h
  rcases Nat.lt_trichotomy i j with z | z | z
  · exact absurd e (hp i j hi hj z)
  · exact z
  · exact absurd e.symm (hp j i hj hi z)
theorem nodup_take {ns : List Int} (h : ns.Nodup) (i : Nat) {x : Int} (hx : ns[i]? = some x) : x ∉ ns.take i := fun m => by
  obtain ⟨j, hj, e⟩ := List.getElem_of_mem m
  rw [List.length_take] at hj
  rw [List.getElem_take] at e
  obtain ⟨hi, e2⟩ := List.getElem?_eq_some_iff.mp hx
  have := nodup_inj h (i := j) (j := i) (by omega) hi (by rw [e, e2])
  omega
theorem idx_of {ns : List Int} (h : ns.Nodup) {i : Nat} {x : Int} (hx : ns[i]? = some x) : ns.idxOf x = i := by
  obtain ⟨hi, e2⟩ := List.getElem?_eq_some_iff.mp hx
  have hm : x ∈ ns := List.mem_of_getElem? hx
  have hlt := List.idxOf_lt_length_of_mem hm
  exact nodup_inj h (i := ns.idxOf x) (j := i) hlt hi (by rw [List.getElem_idxOf, e2])
theorem take_snoc {α : Type} {ns : List α} {i : Nat} {x : α} (hx : ns[i]? = some x) : ns.take (i + 1) = ns.take i ++ [x] := by
  rw [List.take_add_one, hx]
  rfl
theorem foldl_take {α β : Type} {f : β → α → β} {b : β} {cs : List α} {i : Nat} {c : α} (h : cs[i]? = some c) : (cs.take (i + 1)).foldl f b = f ((cs.take i).foldl f b) c := by
  rw [take_snoc h, List.foldl_append]
  rfl
theorem peBMK {X : Cx} {K : PySem.W.Frag} (h : X.K = K) {e : Expr} {T : String} {r : V → List V → Hp → VK → Prop} {to : TE} {t : TA} (p : PE X e (tBM X.K T r to t)) : PE X e (tBM K T r to t) := h ▸ p
theorem peBM0K {X : Cx} {K : PySem.W.Frag} (h : X.K = K) {e : Expr} {T : String} {r : V → List V → Hp → VK → Prop} {to : TE} (p : PE X e (tBM0 X.K T r to)) : PE X e (tBM0 K T r to) := h ▸ p
section
variable {X : Cx} {e : Expr} {te : L2.St → Hp → (Int → Int → Hp → Prop) → Prop}
def tCutR (te : L2.St → Hp → (Int → Int → Hp → Prop) → Prop) : L2.St → Hp → (Int → Int → Hp → Prop) → Prop := fun σ H Q => ∃ M : Int → Int → Hp → Prop, te σ H M ∧ ∀ a b H', M a b H' → Q a b H'
theorem prg_cut (h : PRg X e te) : PRg X e (tCutR te) := fun pins s σ H Q I ⟨M, hm, hq⟩ => thn (h pins s σ H M I hm) fun x s1 ⟨r, a, b, t, u, v, H', e1, e2, I1, q⟩ => ⟨r, a, b, t, u, v, H', e1, e2, I1, hq a b H' q⟩
def tLstRgG (te : L2.St → Hp → (Int → Int → Hp → Prop) → Prop) : TE := fun σ H Q => te σ H fun a b H1 => RgOk a b ∧ New (.lst (rgV a b)) H1 Q
/-- list(range(..)) -/
theorem pe_listRgG {p pos : Pos} (hc : X.calm = true) (hg : Gl X "list") (hm : X.mg "list" = none) (he : PRg X e te) (na : PySem.starEach [e] X.env = (false, PySem.eval e X.env) :: PySem.starEach [] X.env := by rfl) : PE X (.Call (.Name "list" p) [e] [] pos) (tLstRgG te) :=
  pe_weak (pe_listRg hc hg hm (prg_cut he) na) fun σ H Q q => ⟨_, q, fun _ _ _ z => ⟨z.1, fun p hp => z.2.go p hp⟩⟩
/-- the ints 0 .. n - 1 -/
def upN (n : Nat) : List Int := (List.range n).map fun i => ((i : Nat) : Int)
theorem rgV_upN (n : Nat) : rgV 0 (n : Int) = (upN n).map V.int := by
  unfold rgV upN
  rw [List.map_map]
  have e : ((n : Int) - 0).toNat = n := by omega
  rw [e]
  exact List.map_congr_left fun i _ => by
    show V.int (0 + (i : Int)) = V.int (i : Int)
    rw [Int.zero_add]
theorem upN_len (n : Nat) : (upN n).length = n := by
  unfold upN
  rw [List.length_map, List.length_range]
theorem upN_mem {n : Nat} {r : Int} (h : r ∈ upN n) : 0 ≤ r ∧ r < n := by
  unfold upN at h
  obtain ⟨i, hi, rfl⟩ := List.mem_map.mp h
  have := List.mem_range.mp hi
  omega
theorem upN_nodup (n : Nat) : (upN n).Nodup := by
  unfold upN
  show List.Pairwise _ _
  rw [List.pairwise_map]
  exact List.nodup_range.imp fun h => by omega
end
end My
set_option Elab.async false
set_option linter.all false
set_option maxRecDepth 100000
set_option maxHeartbeats 4000000
/-! repr: how long what is shown can be; repr of any data without dicts. -/
namespace My
open PySem PySem.Spec PyProof.Rows L2
/-- data that can be shown, no deeper than n, in at most M signs -/
structure Shw (d : PyData) (n M : Nat) : Prop where
  sh : d.showable = true
  nd : d.hasDict = false
  dp : d.depth ≤ n
  ln : d.shown.length ≤ M
theorem Shw.mono {d : PyData} {n m M L : Nat} (h : Shw d n M) (h1 : n ≤ m) (h2 : M ≤ L) : Shw d m L := ⟨h.sh, h.nd, Nat.le_trans h.dp h1, Nat.le_trans h.ln h2⟩
theorem log_of {i : Int} (h : i.natAbs < 2 ^ 1900) : i.natAbs.log2 < 1920 := by
  have := PySem.Flt.log2_lt_of (k := 1900) (by decide) h
  omega
theorem Shw.int {i : Int} (h : i.natAbs.log2 < 1920) : Shw (.int i) 0 1921 := ⟨decide_eq_true h, rfl, Nat.le_refl _, by
  show (Str.ofString (toString i)).length ≤ 1921
  rw [PySem.ofString_length]
  exact int_text_length_le (k := 1920) (by decide) h⟩
theorem Shw.none : Shw .none 0 4 := ⟨rfl, rfl, Nat.le_refl _, by decide⟩
theorem Shw.bool (b : Bool) : Shw (.bool b) 0 5 := ⟨rfl, rfl, Nat.le_refl _, by cases b <;> decide⟩
theorem textFrom_le : ∀ (ts : List Str) (k : Nat) (acc : Str), (textFrom k acc ts).length ≤ acc.length + piled ts
  | [], k, acc => by
    show acc.length ≤ acc.length + piled []
    omega
  | t :: r, k, acc => by
    have ih := textFrom_le r (k + 1) (acc ++ (if k > 0 then ", " else "" : String) ++ t)
    have l2 : (if k > 0 then 2 else 0) ≤ 2 := by split <;> omega
    have e : (acc ++ (if k > 0 then ", " else "" : String) ++ t).length = acc.length + (if k > 0 then 2 else 0) + t.length := by
      rw [Str.length_append, Str.length_append]
      split <;> rfl
    rw [e] at ih
    show (textFrom (k + 1) (acc ++ (if k > 0 then ", " else "" : String) ++ t) r).length ≤ _
    rw [piled_cons]
    omega
theorem piled_le {M : Nat} : ∀ ts : List Str, (∀ t ∈ ts, t.length ≤ M) → piled ts ≤ ts.length * (M + 2)
  | [], _ => Nat.zero_le _
  | t :: r, h => by
    have ih := piled_le r fun x hx => h x (List.mem_cons_of_mem _ hx)
    have := h t List.mem_cons_self
    rw [piled_cons, List.length_cons, Nat.succ_mul]
    omega
theorem all_of {n M : Nat} : ∀ {xs : List PyData}, (∀ x ∈ xs, Shw x n M) → PyData.showableAll xs = true ∧ PyData.hasDictAll xs = false ∧ PyData.depthAll xs ≤ n ∧ (PyData.shownAll xs).length = xs.length ∧ ∀ t ∈ PyData.shownAll xs, t.length ≤ M
  | [], _ => ⟨rfl, rfl, Nat.zero_le _, rfl, fun t ht => by cases ht⟩
  | x :: xs, h => by
    obtain ⟨h1, h2, h3, h4, h5⟩ := all_of (xs := xs) fun y hy => h y (List.mem_cons_of_mem _ hy)
    have hx := h x List.mem_cons_self
    refine ⟨?_, ?_, ?_, ?_, fun t ht => ?_⟩
    · show (PyData.showable x && PyData.showableAll xs) = true
      rw [hx.sh, h1]
      rfl
    · show (PyData.hasDict x || PyData.hasDictAll xs) = false
      rw [hx.nd, h2]
      rfl
    · exact Nat.max_le.mpr ⟨hx.dp, h3⟩
    · show (PyData.shownAll xs).length + 1 = xs.length + 1
      rw [h4]
    · rcases List.mem_cons.mp (show t ∈ PyData.shown x :: PyData.shownAll xs from ht) with z | z
      · rw [z]
        exact hx.ln
      · exact h5 t z
theorem Shw.list {n M : Nat} {xs : List PyData} (h : ∀ x ∈ xs, Shw x n M) : Shw (.list xs) (n + 1) (2 + xs.length * (M + 2)) := by
  obtain ⟨h1, h2, h3, h4, h5⟩ := all_of h
  refine ⟨h1, h2, by show PyData.depthAll xs + 1 ≤ n + 1; omega, ?_⟩
  show (textFrom 0 "[" (PyData.shownAll xs) ++ ("]" : Str)).length ≤ _
  have a := textFrom_le (PyData.shownAll xs) 0 "["
  have b := piled_le _ h5
  have e1 : ((("[" : String) : Str)).length = 1 := rfl
  have e2 : ((("]" : String) : Str)).length = 1 := rfl
  rw [Str.length_append, e2]
  rw [e1] at a
  rw [h4] at b
  omega
theorem Shw.tuple {n M : Nat} {xs : List PyData} (h : ∀ x ∈ xs, Shw x n M) : Shw (.tuple xs) (n + 1) (3 + xs.length * (M + 2)) := by
  obtain ⟨h1, h2, h3, h4, h5⟩ := all_of h
  refine ⟨h1, h2, by show PyData.depthAll xs + 1 ≤ n + 1; omega, ?_⟩
  show (tupleText (PyData.shownAll xs)).length ≤ _
  have b := piled_le _ h5
  unfold tupleText
  rw [Str.length_append, Str.length_append]
  have e1 : ((("(" : String) : Str)).length = 1 := rfl
  have e3 : (((if (PyData.shownAll xs).length == 1 then ",)" else ")" : String) : Str)).length ≤ 2 := by split <;> decide
  rw [e1]
  rw [h4] at b
  by_cases z : PyData.shownAll xs = []
  · rw [z] at e3 ⊢
    have : (Str.join ", " ([] : List Str)).length = 0 := rfl
    omega
  · have := join_length_add _ z
    omega
/-- ints within some bits -/
def Bd (b : Nat) (ns : List Int) : Prop := ∀ n ∈ ns, n.natAbs < 2 ^ b
theorem Shw.ints {b : Nat} {ns : List Int} (hb : b ≤ 1900) (h : Bd b ns) : Shw (eL PyData.int ns) 1 (2 + ns.length * 1923) := by
  have := Shw.list (n := 0) (M := 1921) (xs := ns.map PyData.int) fun x hx => by
    obtain ⟨n, hn, rfl⟩ := List.mem_map.mp hx
    exact Shw.int (log_of (Nat.lt_of_lt_of_le (h n hn) (Nat.pow_le_pow_right (by decide) hb)))
  rw [List.length_map] at this
  exact this
section
variable {X : Cx}
/-- repr of any data without dicts -/
def rReprA (K : PySem.W.Frag) : List V → Hp → VK → Prop := fun vs H Q => ∃ (v : V) (d : PyData), vs = [v] ∧ Dp K H v d ∧ Shw d 60 sizeLine ∧ Q (.str d.shown) H
theorem cr_reprA (gd : X.A.guards = some []) (hu : X.A.units + 64 < cLine) : CallR X (.builtin "repr") (rReprA X.K) := by
  intro pins s σ H vs us Q I r h
  obtain ⟨v, d, rfl, hd, sw, q⟩ := h
  obtain ⟨u, rfl, ru⟩ := vals1 r
  cases hd with
  | non =>
    cases ru
    exact PySem.P.repr_of_none ⟨.str _, H, I.tok _, ⟨_, rfl⟩, q⟩
  | bl b =>
    cases ru
    exact PySem.P.repr_of_bool ⟨.str _, H, I.tok _, ⟨_, rfl⟩, q⟩
  | int i =>
    obtain ⟨t, rfl⟩ := ru
    exact PySem.P.repr_of_int (of_decide_eq_true sw.sh) ⟨.str _, H, I.tok _, ⟨_, rfl⟩, q⟩
  | str x =>
    obtain ⟨t, rfl⟩ := ru
    exact PySem.P.repr_of_str ⟨.str _, H, I.tok _, ⟨_, rfl⟩, q⟩ sw.ln
  | lst h1 h2 => exact cr_repr gd hu pins s σ H _ _ Q I r ⟨_, _, rfl, .lst h1 h2, sw.sh, sw.nd, sw.dp, sw.ln, ⟨_, rfl⟩, q⟩
  | tup h1 h2 => exact cr_repr gd hu pins s σ H _ _ Q I r ⟨_, _, rfl, .tup h1 h2, sw.sh, sw.nd, sw.dp, sw.ln, ⟨_, rfl⟩, q⟩
end
end My
set_option Elab.async false
set_option linter.all false
set_option maxRecDepth 100000
set_option maxHeartbeats 4000000
/-! Own classes: len(o) by an own __len__, o == p and o != p by an own __eq__. -/
namespace My
open PySem PySem.Spec PyProof.Rows L2
section
variable {X : Cx} {CX : CXT} {n : Nat} {f C : Addr} {fd : FuncData} {ps : List Str} {sp : Sp} {E : XK}
/-- a def called with an around one deeper; what is raised does not leave -/
theorem run_in1 {pins : List (Addr × Obj)} {σ : L2.St} {H : Hp} {s : Shared} {Q : VK} {E' : Value → Shared → Prop} {us : List Value} {vs : List V} (F : FnOk X.prog X.w X.K X.mg X.base CX n f fd ps sp) (hr : Room (n + 1) X.A) (hb : Binds X.K fd ps []) (hx : Passes CX X.nox E)
    (I : Inv X pins σ H s) (r : Vals vs us) (h : sp vs H Q E) : wpAny (model X.prog X.w) X.A.in1 (call (.ref f) us) (EP X pins σ Q) E' s := by
  have hl : us.length = ps.length := by rw [← r.length]; exact F.len _ _ _ _ h
  have hb' := hb s us I.kIn (by rw [List.append_nil]; exact hl)
  rw [List.append_nil] at hb'
  refine wpAny_call (codeAny_mono (F.run X.A.in1 X.stack s H ⟨us, []⟩ us vs Q E hr.in1 I.env0.in1 hb' r h) fun r s' hq => ?_)
  cases r with
  | error er => exact False.elim (hx pins σ H s er s' (I.wish _) hq)
  | ok fl =>
    cases fl with
    | ret u => exact I.after hq
    | next => exact False.elim hq
    | brk => exact False.elim hq
    | cont => exact False.elim hq
def rLenO (C : Addr) (sp : Sp) (E : XK) : List V → Hp → VK → Prop := fun vs H Q => ∃ a dx fs, vs = [V.ref a] ∧ H a = some (.ins C dx fs) ∧ sp [.ref a] H (fun v H' => ∃ m : Int, v = .int m ∧ 0 ≤ m ∧ m < 2 ^ 63 ∧ Q (.int m) H') E
theorem cr_lenO (F : FnOk X.prog X.w X.K X.mg X.base CX n f fd ps sp) (hr : Room (n + 1) X.A) (hs : PySem.W.findIn X.K (.ref C) "__len__" = some (some (.ref f))) (hf : PySem.W.isFn X.K (.ref f) = true) (hb : Binds X.K fd ps []) (hx : Passes CX X.nox E) : CallR X (.builtin "len") (rLenO C sp E) := by
  intro pins s σ H vs us Q I r h
  obtain ⟨a, dx, fs, rfl, ha, h⟩ := h
  rw [Vals.ref1 r]
  obtain ⟨mA, J, _⟩ := ins_get I.hok ha
  obtain ⟨od, J, _⟩ := J.look
  obtain ⟨m, hF⟩ := I.fr
  refine PySem.W.len_K hF I.ok.mod.kin J hs hf (wpAny_mono (run_in1 (vs := [V.ref a]) F hr hb hx I (.cons rfl .nil) h) (fun u s' z => ?_) fun _ _ e => e)
  obtain ⟨v, H', I', rv, m, rfl, m0, m1, q⟩ := z
  obtain ⟨t, rfl⟩ := rv
  exact ⟨⟨m0, m1⟩, .int m, H', I'.tok _, ⟨_, rfl⟩, q⟩
def rEqO (C : Addr) (sp : Sp) (E : XK) : R2 := fun x y H Q => ∃ a b dx fs dy gs, x = .ref a ∧ y = .ref b ∧ H a = some (.ins C dx fs) ∧ H b = some (.ins C dy gs) ∧ sp [.ref a, .ref b] H (fun v H' => ∃ r : Bool, v = .bl r ∧ Q (.bl r) H') E
def rNeO (C : Addr) (sp : Sp) (E : XK) : R2 := fun x y H Q => ∃ a b dx fs dy gs, x = .ref a ∧ y = .ref b ∧ H a = some (.ins C dx fs) ∧ H b = some (.ins C dy gs) ∧ sp [.ref a, .ref b] H (fun v H' => ∃ r : Bool, v = .bl r ∧ Q (.bl (!r)) H') E
theorem run_here {pins : List (Addr × Obj)} {σ : L2.St} {H : Hp} {s : Shared} {Q : VK} {us : List Value} {vs : List V} (F : FnOk X.prog X.w X.K X.mg X.base CX n f fd ps sp) (hr : Room n X.A) (hb : Binds X.K fd ps []) (hx : Passes CX X E)
    (I : Inv X pins σ H s) (r : Vals vs us) (h : sp vs H Q E) : wpAny (model X.prog X.w) X.A (call (.ref f) us) (EP X pins σ Q) X.xe s := by
  have hl : us.length = ps.length := by rw [← r.length]; exact F.len _ _ _ _ h
  have hb' := hb s us I.kIn (by rw [List.append_nil]; exact hl)
  rw [List.append_nil] at hb'
  refine wpAny_call (codeAny_mono (F.run X.A X.stack s H ⟨us, []⟩ us vs Q E hr I.env0 hb' r h) fun r s' hq => ?_)
  cases r with
  | error er => exact hx pins σ H s er s' I hq
  | ok fl =>
    cases fl with
    | ret u => exact I.after hq
    | next => exact False.elim hq
    | brk => exact False.elim hq
    | cont => exact False.elim hq
theorem op_eqO (F : FnOk X.prog X.w X.K X.mg X.base CX n f fd ps sp) (hr : Room n X.A) (hs : PySem.W.findIn X.K (.ref C) "__eq__" = some (some (.ref f))) (hf : PySem.W.isFn X.K (.ref f) = true) (hb : Binds X.K fd ps []) (hx : Passes CX X E) : OpR X (compareOp .Eq) (rEqO C sp E) := by
  intro pins s σ H x y v u Q I rx ry h
  obtain ⟨a, b, dx, fs, dy, gs, rfl, rfl, ha, hb', h⟩ := h
  cases rx
  cases ry
  obtain ⟨mA, J, _⟩ := ins_get I.hok ha
  obtain ⟨mB, J', _⟩ := ins_get I.hok hb'
  obtain ⟨od, J, _⟩ := J.look
  obtain ⟨od', J', _⟩ := J'.look
  obtain ⟨m, hF⟩ := I.fr
  show wpAny (model X.prog X.w) X.A (richCompare .Eq (.ref a) (.ref b)) (EP X pins σ Q) X.xe s
  refine PySem.W.cmp_K (op := .Eq) (tb := .ref C) hr.units0 hF I.ok.mod.kin J J'.type (by simp [PySem.W.notFirst]) hs hf ?_
  refine wpAny_mono (run_here (vs := [V.ref a, V.ref b]) F hr hb hx I (.cons rfl (.cons rfl .nil)) h) (fun u s' z => ?_) fun _ _ e => e
  obtain ⟨v, H', I', rv, r, rfl, q⟩ := z
  cases rv
  exact ⟨.bl r, H', I', rfl, q⟩
theorem ifBound_objNe {M : Model} {A : Around} {E : Value → Shared → Prop} {s : Shared} {K : PySem.W.Frag} {x C : Addr} {ox : Obj} {od : Option Obj} {args : List Value} {Q : Option Value → Shared → Prop} (KX : K.In s.heap) (I : PySem.W.InstAt s.heap x ox C od) (hs : PySem.W.findIn K (.ref C) "__ne__" = some (some (.builtin "object.__ne__")))
    (h : wpAny M A (call (.builtin "object.__ne__") (.ref x :: args)) (fun v => Q (some v)) E s) : wpAny M A (callSpecialIfBound? (.ref x) "__ne__" args) Q E s := by
  simp only [callSpecialIfBound?, bindSpecialIfBound?]
  refine wpAny_holding (wpAny_bind (wpAny_bind (wpAny_bind (I.type.here ((PySem.W.looks_findIn KX hs).here ?_)))))
  refine wpAny_bind (wpAny_askSetting (wpAny_ite ?_))
  have fin : wpAny M A (call (.builtin "object.__ne__") ([.ref x] ++ args) >>= fun v => pure (some v)) Q E s := wpAny_bind (wpAny_mono h (fun v s' h' => wpAny_pure h') fun _ _ h' => h')
  split
  · exact wpAny_bind (wpAny_of_eq (F.cmp_object.ne.bind _) (wpAny_pure (by exact fin)))
  · exact wpAny_tryCatch (wpAny_bind (wpAny_of_eq (F.cmp_object.ne.bind _) (wpAny_pure (by exact fin))))
theorem op_neO (F : FnOk X.prog X.w X.K X.mg X.base CX n f fd ps sp) (hr : Room (n + 1) X.A) (hs : PySem.W.findIn X.K (.ref C) "__eq__" = some (some (.ref f))) (hn : PySem.W.findIn X.K (.ref C) "__ne__" = some (some (.builtin "object.__ne__"))) (hm : PySem.W.mroIn X.K C (.type "object") = some true) (hf : PySem.W.isFn X.K (.ref f) = true) (hb : Binds X.K fd ps []) (hx : Passes CX X.nox E) : OpR X (compareOp .NotEq) (rNeO C sp E) := by
  intro pins s σ H x y v u Q I rx ry h
  obtain ⟨a, b, dx, fs, dy, gs, rfl, rfl, ha, hb', h⟩ := h
  cases rx
  cases ry
  obtain ⟨mA, J, _⟩ := ins_get I.hok ha
  obtain ⟨mB, J', _⟩ := ins_get I.hok hb'
  obtain ⟨od, J, _⟩ := J.look
  obtain ⟨od', J', _⟩ := J'.look
  have KX := I.kIn
  show wpAny (model X.prog X.w) X.A (richCompare .NotEq (.ref a) (.ref b)) (EP X pins σ Q) X.xe s
  have one : wpAny (model X.prog X.w) X.A (tryCompare (.ref a) "__ne__" (.ref b)) (fun r s' => ∃ v, r = some v ∧ EP X pins σ Q v s') X.xe s := by
    unfold tryCompare
    refine wpAny_bind (ifBound_objNe KX J hn ?_)
    refine wpAny_call (codeAny_call_builtin PySem.F.cmp_object.ne.plain PySem.F.cmpEntry_ne (PySem.W.check_slot PySem.F.cmpKind_ne PySem.F.cmpSplit_ne (J.type.andThen (PySem.W.looks_mroIn KX hm)) (PySem.F.cmpArgs_ne _ _) ?_))
    unfold Builtin.«object.__ne__»
    refine wpAny_bind (wpAny_pure ?_)
    refine wpAny_bind (wpAny_cRoomFor (hr.in1).units0 ?_)
    refine wpAny_bind (m := callSpecialIfBound? (.ref a) (Str.ofString "__eq__") _) (PySem.W.ifBound_K KX J hs hf (wpAny_mono (run_in1 (vs := [V.ref a, V.ref b]) F hr hb hx I (.cons rfl (.cons rfl .nil)) h) (fun u s' z => ?_) fun _ _ e => e))
    obtain ⟨v, H', I', rv, r, rfl, q⟩ := z
    cases rv
    show wpAny _ X.A.in1 (truthy (.bool r) >>= _) _ _ s'
    refine wpAny_bind (wpAny_truthy_bool ?_)
    refine wpAny_pure ?_
    show wpAny _ X.A _ _ _ s'
    exact wpAny_pure ⟨_, rfl, .bl (!r), H', I', rfl, q⟩
  unfold richCompare
  simp only [oneThing_ref]
  refine wpAny_holding (wpAny_bind (wpAny_cRoomFor hr.units0 ?_))
  refine wpAny_bind (J.type.here (wpAny_bind (J'.type.here ?_)))
  split
  · rename_i q
    simp at q
  · refine wpAny_bind (wpAny_pure ?_)
    simp only [Bool.false_eq_true, if_false]
    refine wpAny_bind (wpAny_mono one (fun r s' z => ?_) fun _ _ e => e)
    obtain ⟨v, rfl, hq⟩ := z
    exact wpAny_pure hq
theorem pe_fldK {K : PySem.W.Frag} (h : X.K = K) {e : Expr} {g : Str} {ta : TE} (p : PE X e (tFld X.K ta g)) : PE X e (tFld K ta g) := h ▸ p
/-- tuple(x): of a list a new one, of a tuple itself -/
def rTupleA (K : PySem.W.Frag) : List V → Hp → VK → Prop := fun xs H Q => ∃ p ys, xs = [V.ref p] ∧ ((SqL K H p ys ∧ New (.tup ys) H Q) ∨ (SqT K H p ys ∧ Q (.ref p) H))
theorem call_tupleA : CallR X (.type "tuple") (rTupleA X.K) := fun pins s σ H xs us Q I r ⟨p, ys, h1, h2⟩ => call_tuple_of pins s σ H xs us Q I r ⟨p, ys, h1, h2.imp (fun z => ⟨z.1, fun l hl => z.2.go l hl⟩) id⟩
end
end My
set_option Elab.async false
set_option linter.all false
set_option maxRecDepth 100000
set_option maxHeartbeats 4000000
/-! sorted(xs) of any alike data (tuples, lists, texts, ints, nested), as a rule of the hand layer. -/
namespace My
open PySem PySem.Spec PyProof.Rows L2
open PySem.W (EachIs AllAlike Sortable dataKind sortVals KeyedOut dataLe)
/-- the values sorted by their data -/
def zsort (xs : List V) (ds : List PyData) : List V := ((xs.zip ds).mergeSort (dataLe false (·.2))).map (·.1)
def dsort (ds : List PyData) : List PyData := ds.mergeSort (dataLe false fun d => d)
theorem zsort_len {xs : List V} {ds : List PyData} (h : xs.length = ds.length) : (zsort xs ds).length = xs.length := by
  unfold zsort
  rw [List.length_map, List.length_mergeSort, List.length_zip, h, Nat.min_self]
theorem each_reads {h : Heap} : ∀ {vs : List Value} {ds : List PyData} {as : List Addr}, ReadsAll h vs ds as → EachIs (fun v d => ∃ as, Reads h v d as) vs ds
  | _, _, _, .nil => .nil
  | _, _, _, .cons h t => .cons ⟨_, h⟩ (each_reads t)
theorem each_vals : ∀ {us : List Value} {ps : List (V × PyData)}, EachIs (fun (u : Value) (p : V × PyData) => RelV p.1 u) us ps → Vals (ps.map (·.1)) us
  | _, _, .nil => .nil
  | _, _, .cons h t => .cons h (each_vals t)
theorem each_zip : ∀ {xs : List V} {us : List Value} {ds : List PyData}, Vals xs us → xs.length = ds.length → EachIs (fun (u : Value) (p : V × PyData) => RelV p.1 u) us (xs.zip ds)
  | _, _, [], .nil, _ => .nil
  | _, _, _ :: _, .nil, h => by cases h
  | _, _, [], .cons _ _, h => by cases h
  | _, _, _ :: _, .cons h t, e => .cons h (each_zip t (by simpa using e))
theorem dpLen {K : PySem.W.Frag} {H : Hp} : ∀ {xs : List V} {ds : List PyData}, DpAll K H xs ds → xs.length = ds.length
  | _, _, .nil => rfl
  | _, _, .cons _ t => by simp [dpLen t]
section
variable {X : Cx}
def rSortedA (K : PySem.W.Frag) : List V → Hp → VK → Prop := fun vs H Q => ∃ (a : Addr) (xs : List V) (ds : List PyData), vs = [V.ref a] ∧ SqL K H a xs ∧ DpAll K H xs ds ∧ AllAlike ds ∧ Sortable ds ∧ (∀ d ∈ ds, d.depth ≤ 60) ∧ New (.lst (zsort xs ds)) H Q
theorem cr_sortedA (hu : X.A.units + 64 < cLine) : CallR X (.builtin "sorted") (rSortedA X.K) := by
  intro pins s σ H vs us Q I r h
  obtain ⟨a, xs, ds, rfl, hs, hd, hal, hso, hdep, q⟩ := h
  obtain ⟨its, rv, hl, hz⟩ := I.list hs
  rw [Vals.ref1 r]
  obtain ⟨as, hr⟩ := Dp.readsAll I ds xs its hd rv
  have hlen := dpLen hd
  have e0 := each_reads hr
  have e1 : EachIs (fun v d => ∃ as, Reads (PySem.W.sortingHeap (PySem.W.copyHeap s.heap its) (s.heap.objs.size + 1) its) v d as) its ds := e0.mono fun v d ⟨as, z⟩ => ⟨as, Reads.keeps (fun b o e => PySem.W.sorting_copy_old e) z⟩
  refine PySem.W.sorted_vals (κ := dataKind (PySem.W.sortingHeap (PySem.W.copyHeap s.heap its) (s.heap.objs.size + 1) its) ds) hl.isList (PySem.W.SortsAt.data (s := { s with heap := PySem.W.sortingHeap (PySem.W.copyHeap s.heap its) (s.heap.objs.size + 1) its }) e1 hal hso fun d m => ?_) (by rw [← rv.length]; exact hz) ?_
  · show X.A.units + 1 + 1 + d.depth < cLine
    have := hdep d m
    omega
  · have ez : (xs.zip ds).map (·.2) = ds := by
      rw [← List.zip_unzip (xs.zip ds)]
      simp [List.map_snd_zip, hlen]
    have ko : KeyedOut false ((xs.zip ds).map (·.2)) its (sortVals (dataKind (PySem.W.sortingHeap (PySem.W.copyHeap s.heap its) (s.heap.objs.size + 1) its) ds) false its its) := by
      rw [ez]
      exact ⟨_, its, hal, rfl, e1⟩
    have ev := each_vals (PySem.W.keyedOut_each (·.2) ko (each_zip rv hlen))
    obtain ⟨n, hn⟩ := sortedAll_at s.heap its (sortVals (dataKind (PySem.W.sortingHeap (PySem.W.copyHeap s.heap its) (s.heap.objs.size + 1) its) ds) false its its).toArray
    refine ⟨.ref _, upd H _ (.lst (zsort xs ds)), I.laid (t' := s.toks) (fun b o e => sortedAll_old e) (Nat.le_succ _) ⟨?_, _, n, ev, hn⟩, rfl, q.go _ (I.hok.fresh (Nat.le_succ _))⟩
    rw [zsort_len hlen]
    exact hz
/-- xs[::-1] -/
def tRevG (K : PySem.W.Frag) (te : TE) : TE := fun σ H Q => te σ H fun x H1 => ∃ a xs, x = .ref a ∧ SqL K H1 a xs ∧ New (.lst xs.reverse) H1 Q
theorem pe_revG {e : Expr} {te : TE} {k : Nat} {p1 p2 p3 pos : Pos} (he : PE X e te) : PE X (.Subscript e (.Slice none none (some (.UnaryOp .USub (.Constant (.int 1) k p1) p2)) p3) pos) (tRevG X.K te) :=
  pe_weak (pe_revL (pe_cut he)) fun σ H Q q => ⟨_, q, fun _ _ ⟨a, xs, h1, h2, h3⟩ => ⟨a, xs, h1, h2, fun p hp => h3.go p hp⟩⟩
theorem pe_revK {K : PySem.W.Frag} (h : X.K = K) {e : Expr} {te : TE} {k : Nat} {p1 p2 p3 pos : Pos} (he : PE X e te) : PE X (.Subscript e (.Slice none none (some (.UnaryOp .USub (.Constant (.int 1) k p1) p2)) p3) pos) (tRevG K te) := h ▸ pe_revG he
end
end My
set_option Elab.async false
set_option linter.all false
set_option maxRecDepth 100000
set_option maxHeartbeats 4000000
/-! Lists of objects, pair by pair; comprehensions that make objects; sorting of objects by their data. -/
namespace My
open PySem PySem.Spec PyProof.Rows L2
open PySem.W (AllAlike Sortable dataLe)
def AllR {α : Type} (R : V → α → Prop) (vs : List V) (xs : List α) : Prop := vs.length = xs.length ∧ ∀ (i : Nat) v x, vs[i]? = some v → xs[i]? = some x → R v x
section
variable {α β : Type} {R S : V → α → Prop} {vs us : List V} {xs ys : List α}
theorem AllR.nil : AllR R [] [] := ⟨rfl, fun i v x h => by cases h⟩
theorem AllR.mono (h : AllR R vs xs) (k : ∀ v x, R v x → S v x) : AllR S vs xs := ⟨h.1, fun i v x h1 h2 => k v x (h.2 i v x h1 h2)⟩
theorem AllR.get (h : AllR R vs xs) {i : Nat} {v : V} (hi : vs[i]? = some v) : ∃ x, xs[i]? = some x ∧ R v x := by
  have hlt : i < vs.length := (List.getElem?_eq_some_iff.mp hi).1
  have hr : xs[i]? = some (xs[i]'(by rw [← h.1]; exact hlt)) := List.getElem?_eq_getElem _
  exact ⟨_, hr, h.2 i v _ hi hr⟩
theorem AllR.row (h : AllR R vs xs) {i : Nat} {x : α} (hi : xs[i]? = some x) : ∃ v, vs[i]? = some v ∧ R v x := by
  have hlt : i < xs.length := (List.getElem?_eq_some_iff.mp hi).1
  have hr : vs[i]? = some (vs[i]'(by rw [h.1]; exact hlt)) := List.getElem?_eq_getElem _
  exact ⟨_, hr, h.2 i _ x hr hi⟩
theorem AllR.append (h : AllR R vs xs) (k : AllR R us ys) : AllR R (vs ++ us) (xs ++ ys) := by
  refine ⟨by simp [h.1, k.1], fun i v x h1 h2 => ?_⟩
  by_cases z : i < vs.length
  · rw [List.getElem?_append_left z] at h1
    rw [List.getElem?_append_left (by rw [← h.1]; exact z)] at h2
    exact h.2 i v x h1 h2
  · rw [List.getElem?_append_right (by omega)] at h1
    rw [List.getElem?_append_right (by rw [← h.1]; omega), ← h.1] at h2
    exact k.2 _ v x h1 h2
theorem AllR.one {v : V} {x : α} (h : R v x) : AllR R [v] [x] := ⟨rfl, fun i u y h1 h2 => by
  cases i with
  | zero =>
    cases h1
    cases h2
    exact h
  | succ n => cases h1⟩
theorem AllR.snoc (h : AllR R vs xs) {v : V} {x : α} (k : R v x) : AllR R (vs ++ [v]) (xs ++ [x]) := h.append (AllR.one k)
theorem AllR.take (h : AllR R vs xs) (n : Nat) : AllR R (vs.take n) (xs.take n) := by
  refine ⟨by simp [h.1], fun i v d h1 h2 => ?_⟩
  rw [List.getElem?_take] at h1 h2
  split at h1
  · rename_i z
    rw [if_pos z] at h2
    exact h.2 i v d h1 h2
  · cases h1
theorem AllR.dp {K : PySem.W.Frag} {H : Hp} {e : α → PyData} : ∀ {vs : List V} {xs : List α}, AllR R vs xs → (∀ v x, R v x → Dp K H v (e x)) → DpAll K H vs (xs.map e)
  | [], [], _, _ => .nil
  | [], _ :: _, h, _ => by cases h.1
  | _ :: _, [], h, _ => by cases h.1
  | v :: vs, x :: xs, h, k => .cons (k v x (h.2 0 v x rfl rfl)) (AllR.dp ⟨by simpa using h.1, fun i u y h1 h2 => h.2 (i + 1) u y h1 h2⟩ k)
/-- sorted objects, by the data of them -/
theorem AllR.sort (key : α → PyData) (h : AllR R vs xs) : AllR R (zsort vs (xs.map key)) (xs.mergeSort (dataLe false key)) := by
  have e1 : zsort vs (xs.map key) = ((vs.zip xs).mergeSort (fun p q => dataLe false key p.2 q.2)).map (·.1) := by
    unfold zsort
    have e : vs.zip (xs.map key) = (vs.zip xs).map (fun p => (p.1, key p.2)) := by
      rw [List.zip_map_right]
      rfl
    rw [e, ← List.map_mergeSort (r := fun p q => dataLe false key p.2 q.2) (fun _ _ _ _ => rfl), List.map_map]
    rfl
  have e2 : xs.mergeSort (dataLe false key) = ((vs.zip xs).mergeSort (fun p q => dataLe false key p.2 q.2)).map (·.2) := by
    rw [List.map_mergeSort (s := dataLe false key) (fun _ _ _ _ => rfl), List.map_snd_zip]
    rw [h.1]
    exact Nat.le_refl _
  rw [e1, e2]
  have hp := List.mergeSort_perm (vs.zip xs) (fun p q => dataLe false key p.2 q.2)
  generalize (vs.zip xs).mergeSort (fun p q => dataLe false key p.2 q.2) = Z at hp
  refine ⟨by simp, fun i v x h1 h2 => ?_⟩
  rw [List.getElem?_map] at h1 h2
  cases z : Z[i]? with
  | none => rw [z] at h1; cases h1
  | some p =>
    rw [z] at h1 h2
    cases h1
    cases h2
    have hm : p ∈ vs.zip xs := hp.mem_iff.mp (List.mem_of_getElem? z)
    obtain ⟨k, hk⟩ := List.getElem?_of_mem hm
    rw [List.getElem?_zip_eq_some] at hk
    exact h.2 k _ _ hk.1 hk.2
theorem none_of {H H' : Hp} {p : Addr} (e : Ex H H') (h : H' p = none) : H p = none := by
  cases z : H p with
  | none => rfl
  | some o => rw [e _ _ z] at h; cases h
theorem ne_some {H H' : Hp} {p D : Addr} (e : Ex H H') (h : H' p = none) (hD : H D ≠ none) : p ≠ D := fun z => hD (none_of e (z ▸ h))
/-- a comprehension without tests over a list, each element an object (or any value) that R tells -/
theorem lc_objL {K : PySem.W.Frag} {a : Addr} {xs : List V} {ys : List α} {R : Hp → V → α → Prop} {g : TG} {te : TE} {vs : List Nat} {σ : L2.St} {H1 : Hp} {D : Addr} {Qd : Hp → Prop} (hx : SqL K H1 a xs) (hD : H1 D = none) (hl : ys.length = xs.length) (hz : xs.length ≤ sizeLine)
    (st : ∀ H' H'' v y, R H' v y → Exj D H' H'' → R H'' v y)
    (he : ∀ (i : Nat) x y H', Ex H1 H' → H' D ≠ none → xs[i]? = some x → ys[i]? = some y → ∀ (N : VK) (Z : Hp → Prop), (∀ v H2, Ex H' H2 → R H2 v y → N v H2) → g x (wipe σ vs) H' fun σ2 H2 => wipe σ2 vs = wipe σ vs ∧ tYes σ2 H2 fun b H3 => if b = true then te σ2 H3 N else Z H3)
    (k : ∀ H' us, Ex H1 H' → H' D = some (.lst us) → AllR (R H') us ys → Qd H') :
    ∃ W : Nat → Nat → Hp → Prop, (∃ m, W 0 m (upd H1 D (.lst []))) ∧ ∀ i m H, W i m H →
      ((Itl K a).stop i H ∧ Qd H) ∨ ((Itl K a).go i H ∧ ∃ Nx : Hp → Prop, (∀ H', Nx H' → ∃ m', m' < m ∧ W (i + 1) m' H') ∧ ∀ x H', (Itl K a).yld i H x H' → g x (wipe σ vs) H' fun σ2 H2 => wipe σ2 vs = wipe σ vs ∧ tYes σ2 H2 fun b H3 =>
        if b = true then te σ2 H3 fun y H4 => ∃ acc, H4 D = some (.lst acc) ∧ acc.length < sizeLine ∧ Nx (upd H4 D (.lst (acc ++ [y]))) else Nx H3) := by
  refine lc_it (walk_list (K := K) (a := a) (xs := xs)) (fun i H' => ∃ us, Ex H1 H' ∧ H' D = some (.lst us) ∧ us.length = i ∧ AllR (R H') us (ys.take i)) ⟨[], Evl.Ex.new hD, upd_same, rfl, AllR.nil⟩ (fun i H' _ ⟨_, e, _⟩ => Evl.ex_l e hx) ?_ ?_
  · rintro i x H' H3 hi ⟨us, e', d', l', a'⟩ ⟨rfl, hv⟩
    have hy : ys[i]? = some (ys[i]'(by omega)) := List.getElem?_eq_getElem (by omega)
    refine he i x _ H3 e' (fun z => by rw [d'] at z; cases z) hv hy _ _ fun v H2 e2 r2 => ⟨us, e2 _ _ d', by omega, us ++ [v], Evl.Ex.mut (e'.trans e2) hD, upd_same, by simp [l'], ?_⟩
    rw [List.take_add_one, hy]
    have y1 : Exj D H2 (upd H2 D (.lst (us ++ [v]))) := (Exj.refl _ _).upd
    exact AllR.snoc (a'.mono fun u y r => st _ _ u y (st _ _ u y r (Exj.of e2)) y1) (st _ _ _ _ r2 y1)
  · rintro H' ⟨us, e', d', l', a'⟩
    rw [List.take_of_length_le (by omega)] at a'
    exact k H' us e' d' a'
end
end My
set_option Elab.async false
set_option linter.all false
set_option maxRecDepth 100000
set_option maxHeartbeats 4000000
/-! set(xs) of a list of ints as a set whose order is known; sorted(set(xs)); x in xs of nested data; a + b of own objects. -/
namespace My
open PySem PySem.Spec PyProof.Rows L2 PySem.SeqAt
abbrev nset (w : World) : Obj := { cls := .type "set", dict := none, data := .set #[] 0 (.fresh 0 0 (!w.params.followText "set-order")) }
section
variable {P : Program} {w : World} {A : Around} {E : Value → Shared → Prop} {s : Shared}
theorem call_set_lst {l : Addr} {xs : Array Value} (ns : List Int) {Q : Value → Shared → Prop} (hd : A.handled = none) (ha : s.heap.IsList l xs) (hi : IntsAre xs.toList ns) (hz : ns.length + 1 < scanBound)
    (k : ∀ (h1 : Heap) (tk c : Nat), SetR w h1 s.heap.objs.size (fun j => decide (j ∈ ns)) c → c ≤ ns.length → (∀ b o, s.heap.get? b = some o → h1.get? b = some o) → Q (.ref s.heap.objs.size) { s with heap := h1, toks := tk }) :
    wpAny (model P w) A (call (.type "set") [.ref l]) Q E s := by
  have nl : xs.size = ns.length := (Array.length_toList (xs := xs)).symm.trans hi.length
  obtain ⟨mc, ml, m0⟩ := F.called_set.mro; have m1 := F.called_set.made; have m2 := F.called_set.sub
  refine wpAny_call (codeAny_of_tree (show wpAny _ _ (callAny (.type "set") _) _ _ _ from wpAny_pure ⟨Code.quiet_builtin _ (by decide +kernel), codeAny_builtin F.entry_type_call ?_⟩))
  rw [Around.under_plain (weight_type_call_type "set" [.ref l] []) (by rfl)]
  have m3 := F.called_set.notType; have m4 := F.called_set.canCreate; have m5 := F.typeCall_set_1 (.ref l)
  repeat (any_goals (first | assumption | wp_step))
  refine codeAny_mono (code_set_led1 (.ref l) (E := E) (Q₁ := fun o s1 => o = .ref s.heap.objs.size ∧ s1 = { s with heap := s.heap.push (nset w) }) ⟨rfl, rfl⟩) fun r s1 hr => ?_
  rcases r with e | fl
  · exact hr
  rcases fl with _ | _ | _ | ob
  all_goals first | exact hr.elim | skip
  obtain ⟨rfl, rfl⟩ := hr
  have gS : (s.heap.push (nset w)).get? s.heap.objs.size = some (nset w) := Heap.get?_push_size _ rfl
  have tS : Shared.TypeIs { s with heap := s.heap.push (nset w) } (.ref s.heap.objs.size) "set" := ⟨_, gS, rfl⟩
  have m6 := F.called_set.init.lookup; have m7 := F.called_set.init.bind (.ref s.heap.objs.size)
  repeat (any_goals (first | assumption | wp_step))
  refine codeAny_mono (codeAny_call_builtin (R := wants (fun r s2 => r = .none ∧ ∃ h1 tk c, s2 = { s with heap := h1, toks := tk } ∧ SetR w h1 s.heap.objs.size (fun j => decide (j ∈ ns)) c ∧ c ≤ ns.length ∧ ∀ b o, s.heap.get? b = some o → h1.get? b = some o) E) F.called_set.init.plain F.entry_set_init (check_set_init_1 tS ?_)) fun r2 s2 hr2 => ?_
  · obtain ⟨⟨oc, od, ot, os⟩, ho, c1, m, c2⟩ := ha
    simp only at c1 c2
    subst c1; subst c2
    have ho1 : (s.heap.push (nset w)).get? l = some ⟨.type "list", od, .seq xs m, os⟩ := Heap.get?_push_of_some _ ho
    have b1 := F.sub_list_set; have b2 := F.sub_list_frozenset; have b3 : (Value.type "list" == Value.type "dict") = false := by decide
    have hl1 : (s.heap.push (nset w)).IsList l xs := ⟨_, ho1, rfl, m, rfl⟩
    unfold Builtin.«set.__init__» noKeywords Builtin.Frozenset.updateFrom
    generalize hI : pyIter = PI
    wp_walk
    subst hI
    refine wpAny_pyIter_list hl1 (wpAny_bind (wpAny_runValue ?_))
    have lS : l < s.heap.objs.size := Heap.lt_size ho
    have d3 : A.in1.in1.in1.handled = none := by simp [hd]
    have e1 : (s.heap.push (nset w)).objs.size = s.heap.objs.size + 1 := Heap.size_push ..
    have lI : l ≠ (s.heap.push (nset w)).objs.size := by rw [e1]; exact Nat.ne_of_lt (Nat.lt_succ_of_lt lS)
    have nf : s.heap.objs.size ∉ [(s.heap.push (nset w)).objs.size, l] := by
      rw [e1]; intro z
      rcases List.mem_cons.mp z with q | q
      · exact absurd q (Nat.ne_of_lt (Nat.lt_succ_self _))
      · exact absurd (List.mem_singleton.mp q) (Nat.ne_of_gt lS)
    have vs : ∀ (i : Nat) (v : Value), xs[i]? = some v → ∃ k t, ns[i]? = some k ∧ v = .int k t := fun i v hv => by
      have il : i < ns.length := nl ▸ (Array.getElem?_eq_some_iff.mp hv).1
      obtain ⟨t, e⟩ := hi.int_at i v (by simpa using hv)
      exact ⟨ns[i], t, List.getElem?_eq_getElem il, by rw [e, List.getD_eq_getElem?_getD, List.getElem?_eq_getElem il]; rfl⟩
    refine set_update_ints ((Walks.list d3 _ l lI xs).toS) s.heap.objs.size nf ns nl hz vs (xs.size - 0) 0 _ (by omega) (Nat.zero_le _) ⟨⟨_, Heap.get?_push_size _ rfl, rfl, rfl⟩, hl1.push _⟩ ⟨0, Nat.le_refl 0, setR_new_at (Heap.get?_push_of_some _ gS)⟩ ?_
    intro s3 c3 hm hc3 hS3
    obtain ⟨h3, g3, dr3, tk3, o3⟩ := s3
    have q1 : g3 = s.gens := hm.gens; have q2 : dr3 = s.drawn := hm.drawn; have q3 : o3 = s.os := hm.os
    subst q1; subst q2; subst q3
    refine (show wpAny _ _ _ _ _ _ from wpAny_pure (show wpAny _ _ (ret Value.none) _ _ _ from wpAny_pure ⟨rfl, h3, tk3, c3, rfl, hS3, nl ▸ hc3, fun b o e => ?_⟩))
    have bl : b < s.heap.objs.size := Heap.lt_size e
    refine hm.heap b o ?_ (Heap.get?_push_of_some _ (Heap.get?_push_of_some _ e))
    rw [e1]
    intro z
    rcases List.mem_cons.mp z with q | q
    · exact absurd q (Nat.ne_of_lt bl)
    · exact absurd (List.mem_singleton.mp q) (Nat.ne_of_lt (Nat.lt_succ_of_lt bl))
  · rcases r2 with e | fl
    · exact hr2
    rcases fl with _ | _ | _ | v
    all_goals first | exact hr2.elim | skip
    obtain ⟨rfl, h1, tk, c, rfl, hS, hc, hk⟩ := hr2
    repeat (any_goals (first | assumption | wp_step))
    exact k _ _ _ hS hc hk
end
section
variable {X : Cx}
/-- sorted(set(xs)) -/
def tSortSet (K : PySem.W.Frag) (ta : TE) : TE := fun σ H Q => ta σ H fun x H1 => ∃ (l : Addr) (ns : List Int), x = V.ref l ∧ SqL K H1 l (ns.map V.int) ∧ ns.length < 64 ∧ ∀ ms : List Int, ms.Pairwise (· < ·) → (∀ k, k ∈ ms ↔ k ∈ ns) → New (.lst (ms.map V.int)) H1 Q
theorem pe_sortSet {a : Expr} {ta : TE} {p p2 q pos : Pos} (hg : Gl X "sorted") (hm : X.mg "sorted" = none) (hg2 : Gl X "set") (hm2 : X.mg "set" = none) (ha : PE X a ta) (hc : X.calm = true := by rfl)
    (na : starEach [a] X.env = (false, eval a X.env) :: starEach [] X.env := by rfl) : PE X (.Call (.Name "sorted" p) [.Call (.Name "set" p2) [a] [] q] [] pos) (tSortSet X.K ta) := by
  refine ⟨fun pins s σ H Q I h => ?_⟩
  refine Call_ (ld_blt I hg hm (show bootBuiltins "sorted" = some (.builtin "sorted") by decide +kernel) (PyProof.Rows.callWith_builtin1 (PyProof.Rows.args_cons ?_ rfl) rfl rfl))
  refine Call_ (ld_blt I hg2 hm2 PyProof.Rows.boot_set (PyProof.Rows.callWith_type1 (PyProof.Rows.args_cons (thn (ha.run pins s σ H _ I h) fun v s1 ⟨x, H1, I1, r1, q1⟩ => PyProof.Rows.args_nil ?_) na) na rfl))
  obtain ⟨l, ns, rfl, hq, hz, q1⟩ := q1
  cases r1
  obtain ⟨its, r, pl, _⟩ := I1.list hq
  have hlen : its.length = ns.length := by rw [← r.length, List.length_map]
  refine call_set_lst ns (I1.ok.hd hc) pl.isList (by simpa using r.ints) (by unfold scanBound; omega) fun h1 tk c hS hc1 hk => ?_
  refine PyProof.Rows.args_nil ?_
  have I2 : Inv X pins σ H1 { s1 with heap := h1, toks := tk } := I1.kept hk
  refine sorted_set hS (I2.ok.hd hc) (by omega) fun s' p' out c' ms kp g o hp hgt hi hs hmem hl => ?_
  have ml : (ms.map V.int).length ≤ sizeLine := by rw [List.length_map, hl]; exact Nat.le_trans (show _ ≤ 64 by omega) (by decide)
  have hn : H1 p' = none := I2.hok.fresh hp
  have J : Inv X pins σ (upd H1 p' (.lst (ms.map V.int))) { ({ s1 with heap := h1, toks := tk } : Shared) with heap := s'.heap, gens := s'.gens, drawn := s'.drawn, toks := s'.toks } :=
    I2.call (ch := []) (Un.laid kp hp hn) (I2.hok.laid kp hp ⟨ml, out.toList, c', vals_of_ints hi, hgt⟩) (by rw [g]; exact I2.bare) (fun _ z => nomatch z)
  have e : s' = { ({ s1 with heap := h1, toks := tk } : Shared) with heap := s'.heap, gens := s'.gens, drawn := s'.drawn, toks := s'.toks } := by
    obtain ⟨_, _, _, _, _⟩ := s'
    cases o
    rfl
  rw [e]
  exact ⟨.ref p', _, J, rfl, (q1 ms hs (fun k => by rw [hmem]; simp)).go p' hn⟩
theorem u65 {k : Nat} {A : Around} (r : Room k A) : A.units + 65 < cLine := by have := r.un; omega
/-- x in xs, x not in xs of nested data -/
def rInD (neg : Bool) (K : PySem.W.Frag) : R2 := fun x y H Q => ∃ d ds, Dp K H x d ∧ Dp K H y (.list ds) ∧ SeqAt.shaped d = true ∧ SeqAt.shaped (.list ds) = true ∧ Q (.bl (if neg = true then !(ds.any fun e => PyData.eqv e d) else ds.any fun e => PyData.eqv e d)) H
theorem op_inD (hu : X.A.units + 65 < cLine) : OpR X (compareOp .In) (rInD false X.K) := by
  intro pins s σ H x y v u Q I rx ry ⟨d, ds, hd, he, sd, se, q⟩
  obtain ⟨as, r1⟩ := Dp.reads I d x v hd rx
  obtain ⟨bs, r2⟩ := Dp.reads I _ y u he ry
  exact in_list_reads r2 r1 (canLay_of_shaped se) (canLay_of_shaped sd) (room_in_shaped sd hu) ⟨.bl _, H, I, rfl, q⟩
theorem op_notInD (hu : X.A.units + 65 < cLine) : OpR X (compareOp .NotIn) (rInD true X.K) := by
  intro pins s σ H x y v u Q I rx ry ⟨d, ds, hd, he, sd, se, q⟩
  obtain ⟨as, r1⟩ := Dp.reads I d x v hd rx
  obtain ⟨bs, r2⟩ := Dp.reads I _ y u he ry
  exact notIn_list_reads r2 r1 (canLay_of_shaped se) (canLay_of_shaped sd) (room_in_shaped sd hu) ⟨.bl _, H, I, rfl, q⟩
variable {CX : CXT} {n : Nat} {f C : Addr} {fd : FuncData} {ps : List Str} {sp : Sp} {E : XK}
/-- a + b of an own class -/
def rAddO (C : Addr) (sp : Sp) (E : XK) : R2 := fun x y H Q => ∃ a b dx fs dy gs, x = .ref a ∧ y = .ref b ∧ H a = some (.ins C dx fs) ∧ H b = some (.ins C dy gs) ∧ sp [.ref a, .ref b] H (fun v H' => ∃ r, v = .ref r ∧ Q (.ref r) H') E
theorem op_addO (F : FnOk X.prog X.w X.K X.mg X.base CX n f fd ps sp) (hr : Room n X.A) (hs : PySem.W.findIn X.K (.ref C) "__add__" = some (some (.ref f))) (hf : PySem.W.isFn X.K (.ref f) = true) (hc : PySem.W.selfFirst X.K C = true) (hb : Binds X.K fd ps []) (hx : Passes CX X E) : OpR X (binaryOp .Add) (rAddO C sp E) := by
  intro pins s σ H x y v u Q I rx ry h
  obtain ⟨a, b, dx, fs, dy, gs, rfl, rfl, ha, hb', h⟩ := h
  cases rx
  cases ry
  obtain ⟨mA, J, _⟩ := ins_get I.hok ha
  obtain ⟨mB, J', _⟩ := ins_get I.hok hb'
  obtain ⟨od, J, _⟩ := J.look
  obtain ⟨od', J', _⟩ := J'.look
  obtain ⟨m, hF⟩ := I.fr
  refine PySem.W.binop_K (op := .Add) hF I.ok.mod.kin J J'.type hc hs hf ?_
  refine wpAny_mono (run_here (vs := [V.ref a, V.ref b]) F hr hb hx I (.cons rfl (.cons rfl .nil)) h) (fun u s' z => ?_) fun _ _ e => e
  obtain ⟨v, H', I', rv, r, rfl, q⟩ := z
  cases rv
  exact ⟨.ref r, H', I', rfl, q⟩
end
end My
set_option Elab.async false
set_option linter.all false
set_option maxRecDepth 100000
set_option maxHeartbeats 4000000
/-! [x for x in xs if t], xs a list of ints. -/
namespace My
open PySem PySem.Spec PyProof.Rows L2
theorem mapI_at {ts : List Int} {i : Nat} {x : V} (h : (ts.map V.int)[i]? = some x) : ∃ t, ts[i]? = some t ∧ x = V.int t := by
  rw [List.getElem?_map] at h
  cases q : ts[i]? with
  | none => rw [q] at h; cases h
  | some t => rw [q] at h; cases h; exact ⟨t, rfl, rfl⟩
theorem lc_filtI {K : PySem.W.Frag} {a : Addr} {ns : List Int} {p : Int → Bool} {j : Nat} {tt : TT} {te : TE} {vs : List Nat} {σ : L2.St} {H1 : Hp} {D : Addr} {Qd : Hp → Prop} (hx : SqL K H1 a (ns.map V.int)) (hD : H1 D = none) (hz : ns.length ≤ 1000)
    (hw : ∀ x, wipe ((wipe σ vs).set j (some x)) vs = wipe σ vs)
    (ht : ∀ n H', n ∈ ns → Ex H1 H' → ∀ R : Bool → Hp → Prop, (∀ H2, Ex H' H2 → R (p n) H2) → tt ((wipe σ vs).set j (some (.int n))) H' R)
    (he : ∀ n H' (N : VK), N (.int n) H' → te ((wipe σ vs).set j (some (.int n))) H' N)
    (k : ∀ H', Ex H1 H' → H' D = some (.lst ((ns.filter p).map V.int)) → Qd H') :
    ∃ W : Nat → Nat → Hp → Prop, (∃ m, W 0 m (upd H1 D (.lst []))) ∧ ∀ i m H, W i m H →
      ((Itl K a).stop i H ∧ Qd H) ∨ ((Itl K a).go i H ∧ ∃ Nx : Hp → Prop, (∀ H', Nx H' → ∃ m', m' < m ∧ W (i + 1) m' H') ∧ ∀ x H', (Itl K a).yld i H x H' → gName j x (wipe σ vs) H' fun σ2 H2 => wipe σ2 vs = wipe σ vs ∧ tt σ2 H2 fun b H3 =>
        if b = true then te σ2 H3 fun y H4 => ∃ acc, H4 D = some (.lst acc) ∧ acc.length < sizeLine ∧ Nx (upd H4 D (.lst (acc ++ [y]))) else Nx H3) := by
  refine lc_it (walk_list (K := K) (a := a) (xs := ns.map V.int)) (fun i H' => Ex H1 H' ∧ H' D = some (.lst (((ns.take i).filter p).map V.int))) ⟨Evl.Ex.new hD, upd_same⟩ (fun i H' _ z => Evl.ex_l z.1 hx) ?_ ?_
  · rintro i v HX H3 hi ⟨e3, d3⟩ ⟨rfl, hv⟩
    obtain ⟨n, hn, rfl⟩ := mapI_at hv
    rw [List.length_map] at hi
    refine ⟨hw _, ?_⟩
    show tt ((wipe σ vs).set j (some (.int n))) _ _
    refine ht n _ (List.mem_of_getElem? hn) e3 _ fun H4 e4 => ?_
    rw [take_snoc hn, List.filter_append, List.filter_cons]
    cases q : p n with
    | true =>
      refine iteT (he n _ _ ⟨_, e4 _ _ d3, ?_, Evl.Ex.mut (e3.trans e4) hD, ?_⟩)
      · rw [List.length_map]
        refine Nat.lt_of_le_of_lt (List.length_filter_le _ _) ?_
        rw [List.length_take]
        exact Nat.lt_of_le_of_lt (show _ ≤ 1000 by omega) (by decide)
      · rw [upd_same, List.map_append]
        rfl
    | false =>
      refine iteF ⟨e3.trans e4, ?_⟩
      rw [e4 _ _ d3]
      simp
  · rintro H' ⟨e', d'⟩
    rw [List.length_map, List.take_length] at d'
    exact k H' e' d'
end My
namespace My
open PySem PySem.Spec PyProof.Rows L2
/-- a walk within a comprehension -/
theorem piK {X : Cx} {K : PySem.W.Frag} {r : PySem.W.Frag → TE → TI} {tg it : Expr} {tl : TE} (h : X.K = K) (p : PI X tg it (r X.K tl)) : PI X tg it (r K tl) := h ▸ p
/-- lists of lists of ints, sorted -/
def srtL (L : List (List Int)) : List (List Int) := L.mergeSort (PySem.W.dataLe false (eL PyData.int))
theorem rowsLe : PySem.W.dataLe false (eL PyData.int : List Int → PyData) = fun p q => decide (p ≤ q) := PySem.W.dataLe_rows (β := List Int) id
theorem srtL_congr {A B : List (List Int)} (h : A.Perm B) : srtL A = srtL B := by
  unfold srtL
  rw [rowsLe]
  have pw : ∀ L : List (List Int), (L.mergeSort (fun p q => decide (p ≤ q))).Pairwise (· ≤ ·) := fun L => by
    have := List.pairwise_mergeSort (le := fun (p q : List Int) => decide (p ≤ q)) (fun a b c h1 h2 => by simp at *; exact List.le_trans h1 h2) (fun a b => by simpa using List.le_total a b) L
    exact this.imp fun h => by simpa using h
  exact List.Perm.eq_of_pairwise (le := (· ≤ ·)) (fun a b _ _ h1 h2 => List.le_antisymm h1 h2) (pw A) (pw B) ((List.mergeSort_perm _ _).trans (h.trans (List.mergeSort_perm _ _).symm))
theorem srtL_len (L : List (List Int)) : (srtL L).length = L.length := List.length_mergeSort ..
theorem inD_mem {α : Type} [DecidableEq α] {e : α → PyData} {n : Nat} (g : Good e n) (x : α) (L : List α) : ((L.map e).any fun d => PyData.eqv d (e x)) = decide (x ∈ L) := by
  rw [List.any_map, Bool.eq_iff_iff, List.any_eq_true, decide_eq_true_eq]
  constructor
  · rintro ⟨y, hy, h⟩
    have h : PyData.eqv (e y) (e x) = true := h
    rw [g.eqv] at h
    exact of_decide_eq_true h ▸ hy
  · intro h
    exact ⟨x, h, by show PyData.eqv (e x) (e x) = true; rw [g.eqv]; exact decide_eq_true rfl⟩
theorem alikeLs (cs : List (List Int)) : PySem.W.AllAlike (cs.map (eL PyData.int)) := PySem.W.AllAlike.of fun b b' => by
  unfold eL
  rw [PySem.W.alike]
  exact PySem.W.alike_ints b b'
theorem sortLs (cs : List (List Int)) : PySem.W.Sortable (cs.map (eL PyData.int)) := PySem.W.Sortable.others fun b => ⟨(by intro z; cases z), (by intro xs z; cases z)⟩
theorem depLs (cs : List (List Int)) : ∀ d ∈ cs.map (eL PyData.int), d.depth ≤ 60 := fun d hd => by
  obtain ⟨c, _, rfl⟩ := List.mem_map.mp hd
  have := (goodL goodI).dep c
  omega
end My
set_option Elab.async false
set_option linter.all false
set_option maxRecDepth 100000
set_option maxHeartbeats 4000000
/-! enumerate of a tuple. -/
namespace My
open PySem PySem.Spec PyProof.Rows L2
set_option maxHeartbeats 1000000 in
theorem meets_enumerate_newT (l : Addr) (items : Array Value) :
    Meets (Builtin.«enumerate.__new__» ⟨[.type "enumerate", .ref l], []⟩) (fun _ R s => s.heap.IsTuple l items ∧
      R (.ok (.ret (.ref (s.heap.push { cls := .type "tuple_iterator", data := .fields #[.ref l, .int 0 0] }).objs.size)))
        { s with heap := (s.heap.push { cls := .type "tuple_iterator", data := .fields #[.ref l, .int 0 0] }).push { cls := .type "enumerate", data := .fields #[.none, .bool false, .ref s.heap.objs.size, rawInt 0, .none, .none] } }) :=
  .of_wp fun prog w A R s h => by
    obtain ⟨hp, g, d, tk, os⟩ := s; obtain ⟨h1, h⟩ := h
    have hsub := sub_enumerate
    have q1 : ∀ {A' : Around} {E : Value → Shared → Prop} {Q : Value → Shared → Prop}, Q (.ref hp.objs.size) ⟨hp.push { cls := .type "tuple_iterator", data := .fields #[.ref l, .int 0 0] }, g, d, tk, os⟩ → wpAny (model prog w) A' (pyIter (.ref l)) Q E ⟨hp, g, d, tk, os⟩ :=
      fun q => (begins_tuple l items).iter prog w _ _ ⟨hp, g, d, tk, os⟩ _ h1 q
    wp_walk using q1
    refine wpAny_stack_any fun st => wpAny_pure ?_
    split
    · rename_i c _ _ _ _ _
      cases (c == Value.type "enumerate")
      · wp_walk using q1
        exact ⟨_, rfl, h⟩
      · wp_walk using q1
        exact ⟨_, rfl, h⟩
    · wp_walk using q1
      exact ⟨_, rfl, h⟩
section
variable {prog : Program} {w : World} {A : Around} {E : Value → Shared → Prop} {s : Shared}
theorem call_enumerate_tuple {l : Addr} {items : Array Value} {Q : Value → Shared → Prop} (hL : s.heap.IsTuple l items)
    (h : ∀ h', IsEnum h' (s.heap.objs.size + 1) s.heap.objs.size 0 .none → h'.IsTupleIter s.heap.objs.size l 0 → h'.objs.size = s.heap.objs.size + 2 →
      (∀ b o, s.heap.get? b = some o → h'.get? b = some o) → Q (.ref (s.heap.objs.size + 1)) { s with heap := h' }) :
    wpAny (model prog w) A (call (.type "enumerate") [.ref l]) Q E s := by
  refine callType_new F.called_enumerate (by decide) (F.typeCall_enumerate_1 _) (F.newCall_enumerate_1 _) (fun obj => F.args_object_init_2 obj _) F.entry_enumerate_new
    (meets_enumerate_newT l items) ⟨hL, ?_⟩
  have hz : (s.heap.push { cls := .type "tuple_iterator", data := .fields #[.ref l, .int 0 0] }).objs.size = s.heap.objs.size + 1 := Heap.size_push ..
  show _ ∧ _
  rw [hz]
  have he : IsEnum ((s.heap.push { cls := .type "tuple_iterator", data := .fields #[.ref l, .int 0 0] }).push
      { cls := .type "enumerate", data := .fields #[.none, .bool false, .ref s.heap.objs.size, rawInt 0, .none, .none] }) (s.heap.objs.size + 1) s.heap.objs.size 0 .none := by
    have := Heap.get?_push_size (s.heap.push { cls := .type "tuple_iterator", data := .fields #[.ref l, .int 0 0] })
      (o := { cls := .type "enumerate", data := .fields #[.none, .bool false, .ref s.heap.objs.size, rawInt 0, .none, .none] }) rfl
    rw [hz] at this; exact this
  refine ⟨⟨_, he, rfl⟩, h _ he ⟨_, Heap.get?_push_of_some _ (Heap.get?_push_size _ rfl), rfl, rfl⟩ (by rw [Heap.size_push, hz]) fun b o x => Heap.get?_push_of_some _ (Heap.get?_push_of_some _ x)⟩
end
/-- the tuple at a as it stands at each turn, each item in a new pair -/
def Itet (K : PySem.W.Frag) (a : Addr) : It :=
  ⟨fun i H => ∃ (xs : List V) (x : V), SqT K H a xs ∧ xs[i]? = some x, fun i H v H' => ∃ T x, v = .ref T ∧ H T = none ∧ H' = upd H T (.tup [.int (i : Nat), x]) ∧ ∀ xs, SqT K H a xs → xs[i]? = some x, fun i H => ∃ xs : List V, SqT K H a xs ∧ xs.length = i⟩
theorem tup_apart {h : Heap} {e it a : Addr} {items : Array Value} {n : Int} {old : Value} {i : Nat} (he : IsEnum h e it n old) (hit : h.IsTupleIter it a i) (p : h.IsTuple a items) : a ≠ it ∧ a ≠ e := by
  obtain ⟨o, ho, hc, _⟩ := p
  obtain ⟨o2, ho2, hc2, _⟩ := hit
  refine ⟨fun z => ?_, fun z => ?_⟩
  · subst z
    rw [ho] at ho2
    cases ho2
    rw [hc] at hc2
    exact absurd hc2 (by decide)
  · subst z
    have he : h.get? a = _ := he
    rw [ho] at he
    cases he
    exact absurd (show Value.type "enumerate" = Value.type "tuple" from hc) (by decide)
theorem turn_enumT {P : Program} {w : World} {K : PySem.W.Frag} {elts : List Expr} {kk : Nat} {tpos : Pos} (a e it : Addr) :
    Turn P w K (.Tuple elts kk tpos) (Itet K a) [e, it] e (fun i h => (∃ old, IsEnum h e it ((i : Nat) : Int) old) ∧ h.IsTupleIter it a i ∧ e ≠ it) where
  mem := by simp
  obj := fun i h st b hb => by
    obtain ⟨⟨old, he⟩, ⟨o, ho, hc, hd⟩, _⟩ := st
    have e' : b = e ∨ b = it := by simpa using hb
    rcases e' with z | z
    · rw [z]; exact ⟨_, he, fun v q => nomatch q⟩
    · rw [z]; exact ⟨o, ho, fun v q => by rw [hd] at q; cases q⟩
  keep := fun i h h' st k => let ⟨⟨old, he⟩, hi, hne⟩ := st; ⟨⟨old, k e (by simp) _ he⟩, hi.at fun o q => k it (by simp) o q, hne⟩
  item := by
    intro X hP hw hK hc i pins s σ H E I hf st hg
    subst hP hw hK
    obtain ⟨⟨old, he⟩, hit, hne⟩ := st
    obtain ⟨xs, x, hq, hx⟩ := hg
    obtain ⟨its, rv, p, hz⟩ := I.tuple hq
    obtain ⟨u, hu, ru⟩ := rv.get hx
    have hel : e < s.heap.objs.size := Heap.lt_size he
    have hil : it < s.heap.objs.size := by obtain ⟨_, q, _⟩ := hit; exact Heap.lt_size q
    obtain ⟨na1, na2⟩ := tup_apart he hit p
    have hlt : i < its.toArray.size := by
      rw [List.size_toArray]
      exact (List.getElem?_eq_some_iff.mp hu).1
    refine wpAny_pyNext_enum_itemC (Draws.tuple (show X.A.in1.handled = none from I.ok.hd hc) it a na1 its.toArray) he ⟨hit, p⟩ hlt hne (by simp [hne, na2.symm]) fun x' h' tk hP ho hst' hT hsz hk => ?_
    have ex : x' = u := by
      have hP : its.toArray[i]? = some x' := hP
      simp only [List.getElem?_toArray] at hP
      rw [hu] at hP
      exact (Option.some.inj hP).symm
    subst ex
    refine ⟨_, rfl, wpAny_letOwnedTupleGo_enum (s := { s with heap := h', toks := tk + 1 }) ho fun h'' he' sb => ?_⟩
    have hT2 : h''.get? s.heap.objs.size = some { cls := .type "tuple", data := .seq #[.int i tk, x'] } := (sb.2 _ (Nat.ne_of_gt hel)).trans hT
    have new : ObjOk X.prog X.w (upd H s.heap.objs.size (.tup [.int (i : Nat), x])) h'' s.heap.objs.size (.tup [.int (i : Nat), x]) :=
      ⟨by show 2 ≤ sizeLine; decide, [.int i tk, x'], .cons ⟨_, rfl⟩ (.cons ru .nil), ⟨_, hT2, rfl, _, rfl⟩⟩
    have I1 : Inv X pins σ (upd H s.heap.objs.size (.tup [.int (i : Nat), x])) { s with heap := h'', toks := tk + 1 } :=
      I.turnedNew (ch := [e, it]) (fun b ob hb q => (sb.2 b (fun z => hb (by simp [z]))).trans (hk b ob (fun z => hb (by simp [z])) (fun z => hb (by simp [z])) q)) hf (Nat.le_refl _) new
    refine ⟨.ref s.heap.objs.size, _, I1, rfl, ⟨_, x, rfl, I.hok.fresh (Nat.le_refl _), rfl, fun ys hy => by rw [I.tuple_inj hy hq]; exact hx⟩, ⟨⟨x', ?_⟩, hst'.1.at fun o q => (sb.2 it (Ne.symm hne)).trans q, hne⟩, fun b hb => ?_⟩
    · have e1 : ((i + 1 : Nat) : Int) = (i : Int) + 1 := by omega
      rw [e1]; exact he'
    · have hb' : b < s.heap.objs.size := by
        have e' : b = e ∨ b = it := by simpa using hb
        rcases e' with z | z
        · rw [z]; exact hel
        · rw [z]; exact hil
      rw [upd_ne (Nat.ne_of_lt hb')]
      exact (hf b hb).1
  done := by
    intro X hP hw hK hc i pins s σ H E I hf st hg
    subst hP hw hK
    obtain ⟨⟨old, he⟩, hit, hne⟩ := st
    obtain ⟨xs, hq, hx⟩ := hg
    obtain ⟨its, rv, p, hz⟩ := I.tuple hq
    obtain ⟨f0, f1, f2, f3, f4, f5⟩ := hf it (by simp)
    have hl := rv.length
    obtain ⟨na1, na2⟩ := tup_apart he hit p
    have en : i = its.toArray.size := by
      rw [List.size_toArray]
      omega
    subst en
    exact wpAny_pyNext_enum_endD (Draws.tuple (show X.A.in1.handled = none from I.ok.hd hc) it a na1 its.toArray) he ⟨hit, p⟩ fun h' eb => ⟨rfl, I.turned (t' := s.toks) (fun b o hb q => eb b o hb q) f0 f1 f3 f4 f5⟩
  self := fun A i s Q E st h => let ⟨⟨_, he⟩, _⟩ := st; wpAny_pyIter_enum he h
def iEnumT (K : PySem.W.Frag) (ta : TA) : TI := fun σ H R => ta σ H fun vs H1 => ∃ a xs, vs = [.ref a] ∧ SqT K H1 a xs ∧ R (Itet K a) H1
theorem pi_enumT {X : Cx} {e : Expr} {ta : TA} {p pos tpos : Pos} {elts : List Expr} {kk : Nat} (hg : Gl X "enumerate") (hm : X.mg "enumerate" = none) (ha : PA X [e] ta) (hs : starEach [e] X.env = [(false, eval e X.env)] := by rfl) :
    PI X (.Tuple elts kk tpos) (.Call (.Name "enumerate" p) [e] [] pos) (iEnumT X.K ta) := by
  refine ⟨fun pins s σ H R I h => ?_⟩
  refine Call_ (ld_blt I hg hm boot_enumerate (PyProof.Rows.callWith_type1 (thn (ha.run pos pins s σ H _ I h) fun us s1 ⟨vs, H1, I1, r1, q1⟩ => ?_) hs rfl))
  obtain ⟨a, xs, ex, hq, q⟩ := q1
  subst ex
  cases r1 with
  | cons r rr =>
    cases rr
    cases r
    obtain ⟨its, rv, p', hz⟩ := I1.tuple hq
    refine call_enumerate_tuple p' fun h' he hit hsz hk => wpAny_pyIter_enum he ?_
    have I2 : Inv X pins σ H1 { s1 with heap := h' } := I1.kept (t' := s1.toks) hk
    refine ⟨s1.heap.objs.size + 1, [s1.heap.objs.size + 1, s1.heap.objs.size], _, _, H1, rfl, I2, turn_enumT a (s1.heap.objs.size + 1) s1.heap.objs.size, ⟨⟨.none, he⟩, hit, Nat.succ_ne_self _⟩, fun b hb => ?_, q⟩
    have e' : b = s1.heap.objs.size + 1 ∨ b = s1.heap.objs.size := by simpa using hb
    have hle : s1.heap.objs.size ≤ b := by
      rcases e' with z | z
      · rw [z]; exact Nat.le_add_right _ _
      · rw [z]; exact Nat.le_refl _
    exact I1.fpOk hle (I1.hok.fresh hle)
theorem walk_enumT {K : PySem.W.Frag} {a : Addr} {xs : List V} : Walk (Itet K a) xs.length (fun H => SqT K H a xs) (YPair (fun i => some (.int (i : Nat))) (fun i => xs[i]?)) := by
  refine ⟨fun i _ hi q => ⟨xs, xs[i], q, by simp [hi]⟩, fun _ q => ⟨xs, q, rfl⟩, fun i H v H' _ q y => ?_⟩
  obtain ⟨T, x, h1, h2, h3, h4⟩ := y
  exact ⟨T, .int (i : Nat), x, h1, h2, h3, rfl, h4 xs q⟩
end My
set_option Elab.async false
set_option linter.all false
set_option maxRecDepth 100000
set_option maxHeartbeats 4000000
/-! len(set(xs)) of a list of ints with doubles. -/
namespace My
open PySem PySem.Spec PyProof.Rows L2
/-- so many different ones -/
def Diff (ns : List Int) (c : Nat) : Prop := ∃ ms : List Int, ms.Nodup ∧ (∀ k, k ∈ ms ↔ k ∈ ns) ∧ ms.length = c
def tLenSetG (K : PySem.W.Frag) (ta : TE) : TE := fun σ H Q => ta σ H fun x H1 => ∃ (l : Addr) (ns : List Int), x = V.ref l ∧ SqL K H1 l (ns.map V.int) ∧ ns.length ≤ 2000 ∧ ∀ c : Nat, Diff ns c → Q (.int (c : Nat)) H1
theorem pe_lenSetG {X : Cx} {a : Expr} {ta : TE} {p p2 q pos : Pos} (hg : Gl X "len") (hm : X.mg "len" = none) (hg2 : Gl X "set") (hm2 : X.mg "set" = none) (ha : PE X a ta) (hc : X.calm = true := by rfl)
    (na : starEach [a] X.env = (false, eval a X.env) :: starEach [] X.env := by rfl) : PE X (.Call (.Name "len" p) [.Call (.Name "set" p2) [a] [] q] [] pos) (tLenSetG X.K ta) := by
  refine ⟨fun pins s σ H Q I h => ?_⟩
  refine Call_ (ld_blt I hg hm boot_len ?_)
  refine PyProof.Rows.callWith_builtin1 (PyProof.Rows.args_cons ?_ rfl) rfl rfl
  refine Call_ (ld_blt I hg2 hm2 PyProof.Rows.boot_set ?_)
  refine PyProof.Rows.callWith_type1 (PyProof.Rows.args_cons (thn (ha.run pins s σ H _ I h) fun v s1 ⟨x, H1, I1, r1, q1⟩ => PyProof.Rows.args_nil ?_) na) na rfl
  obtain ⟨l, ns, rfl, hq, hz, q1⟩ := q1
  cases r1
  obtain ⟨its, r, pl, _⟩ := I1.list hq
  refine call_set_lst ns (I1.ok.hd hc) pl.isList (by simpa using r.ints) (by unfold scanBound; omega) fun h1 tk c hS hc1 hk => ?_
  refine PyProof.Rows.args_nil ?_
  obtain ⟨o, es, ep, t, ho, hex, hd, _, hnd, hS2, _, hf, hn, _⟩ := hS
  have I2 : Inv X pins σ H1 { s1 with heap := h1, toks := tk } := I1.kept hk
  refine call_len_set ho hex hd hf (by rw [hn]; omega) ⟨.int c, H1, I2.tok _, ⟨_, by rw [hn]⟩, q1 c ⟨es.toList.map keyOf, hnd, fun k => ?_, ?_⟩⟩
  · rw [← hS2 k]
    simp
  · rw [List.length_map, Array.length_toList]
    exact hn
theorem diff_nodup {ns : List Int} {c : Nat} (h : Diff ns c) : c = ns.length ↔ ns.Nodup := by
  obtain ⟨ms, h1, h2, h3⟩ := h
  subst h3
  constructor
  · intro e
    -- ms is nodup, the same members, as long: ns has no doubles
    have : ∀ {ns ms : List Int}, ms.Nodup → (∀ k, k ∈ ms → k ∈ ns) → ns.length ≤ ms.length → ns.Nodup := fun {ns} => by
      induction ns with
      | nil => intro ms _ _ _; exact List.nodup_nil
      | cons x ns ih =>
        intro ms hm hs hl
        have h0 : x ∈ ms ∧ x ∉ ns := by
          by_cases a : x ∈ ms
          · refine ⟨a, fun b => ?_⟩
            have := nodup_len (l := ms) (m := ns) hm fun k hk => by
              rcases List.mem_cons.mp (hs k hk) with z | z
              · rw [z]; exact b
              · exact z
            rw [List.length_cons] at hl
            omega
          · exfalso
            have := nodup_len (l := ms) (m := ns) hm fun k hk => by
              rcases List.mem_cons.mp (hs k hk) with z | z
              · rw [z] at hk; exact absurd hk a
              · exact z
            rw [List.length_cons] at hl
            omega
        refine List.nodup_cons.mpr ⟨h0.2, ih (ms := ms.erase x) (hm.erase x) (fun k hk => ?_) ?_⟩
        · have hk' := List.mem_of_mem_erase hk
          rcases List.mem_cons.mp (hs k hk') with z | z
          · rw [z] at hk
            exact absurd hk (fun y => (List.Nodup.mem_erase_iff hm).mp y |>.1 rfl)
          · exact z
        · rw [List.length_erase_of_mem h0.1]
          rw [List.length_cons] at hl
          omega
    exact this h1 (fun k hk => (h2 k).mp hk) (by omega)
  · intro hn
    exact Nat.le_antisymm (nodup_len h1 fun k hk => (h2 k).mp hk) (nodup_len hn fun k hk => (h2 k).mpr hk)
end My
set_option Elab.async false
set_option linter.all false
set_option maxRecDepth 100000
set_option maxHeartbeats 4000000
/-! further comprehensions over lists: any target; kept objects. -/
namespace My
open PySem PySem.Spec PyProof.Rows L2
/-- no tests, any target, the values known -/
theorem lc_mapG {K : PySem.W.Frag} {a : Addr} {xs ys : List V} {g : TG} {te : TE} {vs : List Nat} {σ : L2.St} {H1 : Hp} {D : Addr} {Qd : Hp → Prop} (hx : SqL K H1 a xs) (hD : H1 D = none) (hl : ys.length = xs.length) (hz : xs.length ≤ sizeLine)
    (he : ∀ (i : Nat) x y H', Ex H1 H' → xs[i]? = some x → ys[i]? = some y → ∀ (N : VK) (Z : Hp → Prop), (∀ H2, Ex H' H2 → N y H2) → g x (wipe σ vs) H' fun σ2 H2 => wipe σ2 vs = wipe σ vs ∧ tYes σ2 H2 fun b H3 => if b = true then te σ2 H3 N else Z H3)
    (k : ∀ H', Ex H1 H' → H' D = some (.lst ys) → Qd H') :
    ∃ W : Nat → Nat → Hp → Prop, (∃ m, W 0 m (upd H1 D (.lst []))) ∧ ∀ i m H, W i m H →
      ((Itl K a).stop i H ∧ Qd H) ∨ ((Itl K a).go i H ∧ ∃ Nx : Hp → Prop, (∀ H', Nx H' → ∃ m', m' < m ∧ W (i + 1) m' H') ∧ ∀ x H', (Itl K a).yld i H x H' → g x (wipe σ vs) H' fun σ2 H2 => wipe σ2 vs = wipe σ vs ∧ tYes σ2 H2 fun b H3 =>
        if b = true then te σ2 H3 fun y H4 => ∃ acc, H4 D = some (.lst acc) ∧ acc.length < sizeLine ∧ Nx (upd H4 D (.lst (acc ++ [y]))) else Nx H3) := by
  refine lc_objL (R := fun _ v (y : V) => v = y) hx hD hl hz (fun _ _ _ _ r _ => r) (fun i x y H' e _ hx hy N Z kN => he i x y H' e hx hy N Z fun H2 e2 => kN y H2 e2 rfl) fun H' us e d r => k H' e ?_
  have : us = ys := by
    refine List.ext_getElem? fun i => ?_
    cases z : us[i]? with
    | none => rw [List.getElem?_eq_none (by rw [← r.1]; exact List.getElem?_eq_none_iff.mp z)]
    | some v =>
      obtain ⟨y, h1, h2⟩ := r.get z
      rw [h1, h2]
  rw [← this]
  exact d
/-- the items of which p holds, themselves -/
theorem lc_filtO {α : Type} {K : PySem.W.Frag} {a : Addr} {xs : List V} {ys : List α} {R : V → α → Prop} {p : α → Bool} {j : Nat} {tt : TT} {te : TE} {vs : List Nat} {σ : L2.St} {H1 : Hp} {D : Addr} {Qd : Hp → Prop} (hx : SqL K H1 a xs) (hR : AllR R xs ys) (hD : H1 D = none) (hz : xs.length ≤ 1000)
    (hw : ∀ x, wipe ((wipe σ vs).set j (some x)) vs = wipe σ vs)
    (ht : ∀ v y H', y ∈ ys → R v y → Ex H1 H' → ∀ Z : Bool → Hp → Prop, (∀ H2, Ex H' H2 → Z (p y) H2) → tt ((wipe σ vs).set j (some v)) H' Z)
    (he : ∀ v H' (N : VK), N v H' → te ((wipe σ vs).set j (some v)) H' N)
    (k : ∀ H' us, Ex H1 H' → H' D = some (.lst us) → AllR R us (ys.filter p) → Qd H') :
    ∃ W : Nat → Nat → Hp → Prop, (∃ m, W 0 m (upd H1 D (.lst []))) ∧ ∀ i m H, W i m H →
      ((Itl K a).stop i H ∧ Qd H) ∨ ((Itl K a).go i H ∧ ∃ Nx : Hp → Prop, (∀ H', Nx H' → ∃ m', m' < m ∧ W (i + 1) m' H') ∧ ∀ x H', (Itl K a).yld i H x H' → gName j x (wipe σ vs) H' fun σ2 H2 => wipe σ2 vs = wipe σ vs ∧ tt σ2 H2 fun b H3 =>
        if b = true then te σ2 H3 fun y H4 => ∃ acc, H4 D = some (.lst acc) ∧ acc.length < sizeLine ∧ Nx (upd H4 D (.lst (acc ++ [y]))) else Nx H3) := by
  refine lc_it (walk_list (K := K) (a := a) (xs := xs)) (fun i H' => ∃ us, Ex H1 H' ∧ H' D = some (.lst us) ∧ us.length ≤ i ∧ AllR R us ((ys.take i).filter p)) ⟨[], Evl.Ex.new hD, upd_same, Nat.le_refl _, AllR.nil⟩ (fun i H' _ ⟨_, e, _⟩ => Evl.ex_l e hx) ?_ ?_
  · rintro i v HX H3 hi ⟨us, e3, d3, l3, a3⟩ ⟨rfl, hv⟩
    obtain ⟨y, hy, r⟩ := hR.get hv
    refine ⟨hw _, ?_⟩
    show tt ((wipe σ vs).set j (some v)) _ _
    refine ht v y _ (List.mem_of_getElem? hy) r e3 _ fun H4 e4 => ?_
    rw [take_snoc hy, List.filter_append, List.filter_cons]
    cases q : p y with
    | true =>
      refine iteT (he v _ _ ⟨us, e4 _ _ d3, Nat.lt_of_le_of_lt (show _ ≤ 1000 by omega) (by decide), us ++ [v], Evl.Ex.mut (e3.trans e4) hD, upd_same, by simp; omega, ?_⟩)
      exact AllR.snoc a3 r
    | false =>
      refine iteF ⟨us, e3.trans e4, e4 _ _ d3, by omega, ?_⟩
      simpa using a3
  · rintro H' ⟨us, e', d', l', a'⟩
    rw [List.take_of_length_le (by rw [← hR.1]; exact Nat.le_refl _)] at a'
    exact k H' us e' d' a'
/-- ints of a range, with a test -/
theorem lc_filtR {lo : Int} {n : Nat} {p : Int → Bool} {j : Nat} {tt : TT} {te : TE} {vs : List Nat} {σ : L2.St} {H1 : Hp} {D : Addr} {Qd : Hp → Prop} (hD : H1 D = none) (hz : n ≤ 1000)
    (hw : ∀ x, wipe ((wipe σ vs).set j (some x)) vs = wipe σ vs)
    (ht : ∀ (i : Nat) H', i < n → Ex H1 H' → ∀ Z : Bool → Hp → Prop, (∀ H2, Ex H' H2 → Z (p (lo + i)) H2) → tt ((wipe σ vs).set j (some (.int (lo + i)))) H' Z)
    (he : ∀ v H' (N : VK), N v H' → te ((wipe σ vs).set j (some v)) H' N)
    (k : ∀ H', Ex H1 H' → H' D = some (.lst ((((List.range n).map fun i => lo + ((i : Nat) : Int)).filter p).map V.int)) → Qd H') :
    ∃ W : Nat → Nat → Hp → Prop, (∃ m, W 0 m (upd H1 D (.lst []))) ∧ ∀ i m H, W i m H →
      ((Itr lo n).stop i H ∧ Qd H) ∨ ((Itr lo n).go i H ∧ ∃ Nx : Hp → Prop, (∀ H', Nx H' → ∃ m', m' < m ∧ W (i + 1) m' H') ∧ ∀ x H', (Itr lo n).yld i H x H' → gName j x (wipe σ vs) H' fun σ2 H2 => wipe σ2 vs = wipe σ vs ∧ tt σ2 H2 fun b H3 =>
        if b = true then te σ2 H3 fun y H4 => ∃ acc, H4 D = some (.lst acc) ∧ acc.length < sizeLine ∧ Nx (upd H4 D (.lst (acc ++ [y]))) else Nx H3) := by
  refine lc_range (fun i H' => Ex H1 H' ∧ H' D = some (.lst ((((List.range i).map fun i => lo + ((i : Nat) : Int)).filter p).map V.int))) ⟨Evl.Ex.new hD, upd_same⟩ ?_ ?_
  · rintro i H3 hi ⟨e3, d3⟩
    refine ⟨hw _, ?_⟩
    show tt ((wipe σ vs).set j (some (.int (lo + i)))) _ _
    refine ht i _ hi e3 _ fun H4 e4 => ?_
    rw [List.range_succ, List.map_append, List.filter_append, List.map_cons, List.map_nil, List.filter_cons]
    cases q : p (lo + i) with
    | true =>
      refine iteT (he _ _ _ ⟨_, e4 _ _ d3, ?_, Evl.Ex.mut (e3.trans e4) hD, ?_⟩)
      · rw [List.length_map]
        refine Nat.lt_of_le_of_lt (List.length_filter_le _ _) ?_
        rw [List.length_map, List.length_range]
        exact Nat.lt_of_le_of_lt (show _ ≤ 1000 by omega) (by decide)
      · rw [upd_same, List.map_append]
        rfl
    | false =>
      refine iteF ⟨e3.trans e4, ?_⟩
      rw [e4 _ _ d3]
      simp
  · rintro H' ⟨e', d'⟩
    exact k H' e' d'
end My
set_option Elab.async false
set_option linter.all false
set_option maxRecDepth 100000
set_option maxHeartbeats 4000000
/-! displays of lists and tuples all of whose parts are known data. -/
namespace My
open PySem PySem.Spec PyProof.Rows L2
mutual
theorem dpEx {K : PySem.W.Frag} {H H' : Hp} (e : Ex H H') : ∀ {v : V} {d : PyData}, Dp K H v d → Dp K H' v d
  | _, _, .non => .non
  | _, _, .bl b => .bl b
  | _, _, .int i => .int i
  | _, _, .str x => .str x
  | _, _, .lst h a => .lst (Evl.ex_l e h) (dpAllEx e a)
  | _, _, .tup h a => .tup (Evl.ex_t e h) (dpAllEx e a)
theorem dpAllEx {K : PySem.W.Frag} {H H' : Hp} (e : Ex H H') : ∀ {vs : List V} {ds : List PyData}, DpAll K H vs ds → DpAll K H' vs ds
  | _, _, .nil => .nil
  | _, _, .cons h a => .cons (dpEx e h) (dpAllEx e a)
end
theorem dpAll_len {K : PySem.W.Frag} {H : Hp} : ∀ {vs : List V} {ds : List PyData}, DpAll K H vs ds → vs.length = ds.length
  | _, _, .nil => rfl
  | _, _, .cons _ a => by simp [dpAll_len a]
theorem dpAll_app {K : PySem.W.Frag} {H : Hp} : ∀ {vs us : List V} {ds es : List PyData}, DpAll K H vs ds → DpAll K H us es → DpAll K H (vs ++ us) (ds ++ es)
  | _, _, _, _, .nil, b => b
  | _, _, _, _, .cons h a, b => .cons h (dpAll_app a b)
theorem dpAll_at {K : PySem.W.Frag} {H : Hp} : ∀ {vs : List V} {ds : List PyData} (_ : DpAll K H vs ds) {i : Nat} {v : V}, vs[i]? = some v → ∃ d, ds[i]? = some d ∧ Dp K H v d
  | _, _, .nil, i, v, h => by cases h
  | _, _, .cons h a, 0, v, e => by cases e; exact ⟨_, rfl, h⟩
  | _, _, .cons h a, i + 1, v, e => dpAll_at a e
def tLit (K : PySem.W.Frag) (d : PyData) : TE := fun σ H Q => ∀ v H', Ex H H' → Dp K H' v d → Q v H'
def tLits (K : PySem.W.Frag) (ds : List PyData) : TA := fun σ H Q => ∀ vs H', Ex H H' → DpAll K H' vs ds → Q vs H'
section
variable {X : Cx} {e : Expr} {es : List Expr} {d : PyData} {ds : List PyData} {pos : Pos}
theorem pl_int {i : Int} {j : Nat} : PE X (.Constant (.int i) j pos) (tLit X.K (.int i)) := pe_weak pe_int fun σ H Q q => q _ H (Evl.Ex.refl H) (.int i)
theorem pl_bl {b : Bool} {j : Nat} : PE X (.Constant (.bool b) j pos) (tLit X.K (.bool b)) := pe_weak pe_bl fun σ H Q q => q _ H (Evl.Ex.refl H) (.bl b)
theorem pl_non {j : Nat} : PE X (.Constant .none j pos) (tLit X.K .none) := pe_weak pe_non fun σ H Q q => q _ H (Evl.Ex.refl H) .non
theorem pl_str {x : Str} {j : Nat} : PE X (.Constant (.str x) j pos) (tLit X.K (.str x)) := pe_weak pe_str fun σ H Q q => q _ H (Evl.Ex.refl H) (.str x)
theorem pl_neg {i : Int} {j : Nat} {p2 : Pos} : PE X (.UnaryOp .USub (.Constant (.int i) j p2) pos) (tLit X.K (.int (-i))) := pe_weak (pe_un un_neg pe_int) fun σ H Q q => ⟨_, rfl, q _ H (Evl.Ex.refl H) (.int _)⟩
theorem pl_nil : PA X [] (tLits X.K []) := ⟨fun pos pins s σ H Q I q => pa_nil.run pos pins s σ H Q I (q [] H (Evl.Ex.refl H) .nil)⟩
theorem pl_cons (he : PE X e (tLit X.K d)) (hr : PA X es (tLits X.K ds)) (hn : starEach (e :: es) X.env = (false, eval e X.env) :: starEach es X.env := by rfl) : PA X (e :: es) (tLits X.K (d :: ds)) :=
  ⟨fun pos pins s σ H Q I q => (pa_cons he hr hn).run pos pins s σ H Q I fun v H1 e1 d1 => fun vs H2 e2 d2 => q (v :: vs) H2 (e1.trans e2) (.cons (dpEx e2 d1) d2)⟩
theorem pl_lst (h : PA X es (tLits X.K ds)) (hz : ds.length ≤ 1000) : PE X (.List es pos) (tLit X.K (.list ds)) := pe_weak (pe_lstG h) fun σ H Q q => fun vs H1 e1 d1 => ⟨by
  rw [dpAll_len d1]
  exact Nat.le_trans hz (by decide), fun p H2 n2 e2 h2 => q _ H2 (e1.trans e2) (.lst (sqI h2) (dpAllEx e2 d1))⟩
theorem pl_tup {x1 : Nat} (h : PA X es (tLits X.K ds)) (hz : ds.length ≤ 1000) : PE X (.Tuple es x1 pos) (tLit X.K (.tuple ds)) := pe_weak (pe_tupG h) fun σ H Q q => fun vs H1 e1 d1 => ⟨by
  rw [dpAll_len d1]
  exact Nat.le_trans hz (by decide), fun p H2 n2 e2 h2 => q _ H2 (e1.trans e2) (.tup (sqT h2) (dpAllEx e2 d1))⟩
end
end My
set_option Elab.async false
set_option linter.all false
set_option maxRecDepth 100000
set_option maxHeartbeats 4000000
/-! xs[lo::c], c a written number -/
namespace My
open PySem PySem.Spec PyProof.Rows L2
def stepIx (n : Nat) (lo : Option Int) (c : Int) : List Nat := sliceRange (sliceBounds lo none (some c) n).1 (sliceBounds lo none (some c) n).2.1 (sliceBounds lo none (some c) n).2.2
def stepV {α : Type} (xs : List α) (lo : Option Int) (c : Int) : List α := (stepIx xs.length lo c).filterMap (xs[·]?)
theorem vals_pickS {xs : List V} {its : List Value} (r : Vals xs its) : ∀ J : List Nat, Vals (J.filterMap (xs[·]?)) (J.filterMap (its[·]?))
  | [] => .nil
  | j :: J => by
    have ih := vals_pickS r J
    by_cases h : j < xs.length
    · obtain ⟨u, hu, ru⟩ := r.get (List.getElem?_eq_getElem h)
      rw [List.filterMap_cons, List.filterMap_cons, List.getElem?_eq_getElem h, hu]
      exact .cons ru ih
    · have h2 : ¬ j < its.length := by rw [← r.length]; exact h
      rw [List.filterMap_cons, List.filterMap_cons, List.getElem?_eq_none (by omega), List.getElem?_eq_none (by omega)]
      exact ih
theorem stepV_map {α β : Type} (f : α → β) (xs : List α) (lo : Option Int) (c : Int) : stepV (xs.map f) lo c = (stepV xs lo c).map f := by
  unfold stepV
  rw [List.length_map, List.map_filterMap]
  exact congrArg (fun h => List.filterMap h _) (funext fun j => List.getElem?_map)
def tStepG (K : PySem.W.Frag) (te : TE) (tl : TO) (c : Int) : TE := fun σ H Q => te σ H fun x H1 => tl σ H1 fun lo H2 => ∃ a xs, x = .ref a ∧ SqL K H2 a xs ∧ (stepV xs lo c).length ≤ sizeLine ∧ New (.lst (stepV xs lo c)) H2 Q
section
variable {X : Cx}
theorem pe_stepG {e : Expr} {te : TE} {tl : TO} {ol : Option Expr} {c : Int} {k : Nat} {p1 p3 pos : Pos} (hc : c ≠ 0) (he : PE X e te) (hl : PO X ol tl) : PE X (.Subscript e (.Slice ol none (some (.Constant (.int c) k p1)) p3) pos) (tStepG X.K te tl c) := by
  refine ⟨fun pins s σ H Q I h => ?_⟩
  refine Subscript_ (thn (he.run pins s σ H _ I h) fun v s1 ⟨x, H1, I1, r1, q1⟩ => ?_)
  have hst : PO X (some (.Constant (.int c) k p1)) (tPart (tC (.int c))) := po_some pe_int
  refine wpAny_Slice (thn (hl.run pins s1 σ H1 _ I1 q1) fun vl s2 ⟨lo, H2, I2, pl, q2⟩ => ?_)
  obtain ⟨a, xs, ex, hx, hn, q⟩ := q2
  subst ex
  cases r1
  refine thn (po_none.run pins s2 σ H2 (fun o H3 => o = none ∧ H3 = H2) I2 ⟨rfl, rfl⟩) fun vu s3 ⟨u, H3, I3, pu, eu, e3⟩ => ?_
  subst eu e3
  refine thn (hst.run pins s3 σ H3 (fun o H4 => o = some c ∧ H4 = H3) I3 ⟨c, rfl, rfl, rfl⟩) fun vs s4 ⟨o, H4, I4, ps, eo, e4⟩ => ?_
  subst eo e4
  have I5 : Inv X pins σ H4 { s4 with heap := s4.heap.push { cls := .type "slice", data := .fields #[vl, vu, vs] } } := I4.kept (t' := s4.toks) fun b ob q => Heap.get?_push_of_some _ q
  obtain ⟨its, r, ht, hz⟩ := I5.list hx
  have hlen := r.length
  show wpAny (model X.prog X.w) X.A (subscriptTail e (.Slice ol none (some (.Constant (.int c) k p1)) p3) (.ref a) (.ref s4.heap.objs.size)) (EP X pins σ Q) X.xe { s4 with heap := s4.heap.push { cls := .type "slice", data := .fields #[vl, vu, vs] } }
  refine tail_any (ops := [.ref a, .ref s4.heap.objs.size]) ht.isList.typeIs (PySem.slot_list_getitem.lookup) ?_ (by with_unfolding_all rfl)
  refine wpAny_getItem_list_slice ht.isList (Heap.IsSliceOf.new _ vl vu vs) pl pu ps (fun z => hc (Option.some.inj z)) ?_ (by rw [List.size_toArray]; omega)
  have pk : slicePick its.toArray lo none (some c) = (stepV its lo c).toArray := by
    unfold slicePick stepV stepIx
    rw [List.size_toArray]
    congr 1
    exact congrArg (fun h => List.filterMap h _) (funext fun j => by simp)
  rw [pk]
  have rv : Vals (stepV xs lo c) (stepV its lo c) := by
    unfold stepV
    rw [hlen]
    exact vals_pickS r _
  refine ⟨.ref _, _, I5.laid (t' := s4.toks) (o := .lst (stepV xs lo c)) (fun b ob q => Heap.get?_push_of_some _ q) (Nat.le_refl _) ?_, rfl, q.go _ (I5.hok.fresh (Nat.le_refl _))⟩
  exact ⟨hn, _, 0, rv, Heap.get?_push_size _ rfl⟩
end
end My
set_option Elab.async false
set_option linter.all false
set_option maxRecDepth 100000
set_option maxHeartbeats 4000000
/-! d.get(k, x) where k may be None -/
namespace My
open PySem PySem.Spec PyProof.Rows L2
section
variable {X : Cx} {pins : List (Addr × Obj)} {σ : L2.St} {H : Hp} {s : Shared} {a : Addr} {kvs : List (Key × V)} {A : Around} {E : Value → Shared → Prop}
theorem d_get2N {Q : Value → Shared → Prop} {r : Value} (I : Inv X pins σ H s) (e : Rd H a (.dK kvs)) (h : ∀ s', Inv X pins σ H s' → Q r s') :
    wpAny (model X.prog X.w) A (call (.builtin "dict.get") [.ref a, .none, r]) Q E s := by
  obtain ⟨_, hd, vs, _, dd⟩ := dk_rd I.hok e
  obtain ⟨f, hm, hf⟩ := none_map dd
  refine call_meetsIn PySem.F.slot_dict_get dd.typeIs PySem.F.entry_dict_get (PySem.F.args_dict_get_3 _ _ _) (meets_dict_get_default (noneKind X.prog X.w) a (show (noneKind X.prog X.w).is none .none = true from rfl) hd r) ⟨_, hm, ?_⟩
  rw [hf]
  exact h _ (I.tok _)
/-- v is what d.get(y, z) gives -/
def GetV (H : Hp) (a : Addr) (y z v : V) : Prop := (∃ o, DGet H a y o ∧ v = o.getD z) ∨ (∃ kvs, y = .non ∧ Rd H a (.dK kvs) ∧ v = z)
def tDGet2N (td ty tx : TE) : TE := fun σ H Q => td σ H fun x H1 => ∃ a, x = .ref a ∧ IsD H1 a ∧ ty σ H1 fun y H2 => tx σ H2 fun z H3 => ∃ v, GetV H3 a y z v ∧ Q v H3
end
section
variable {X : Cx} {o e f : Expr} {apos cpos : Pos} {td ty tx : TE}
theorem pe_dget2N (hu : X.A.units + 1 < cLine) (ho : PE X o td) (he : PE X e ty) (hf : PE X f tx) (m : M2 X o "get" apos e f cpos) : PE X (.Call (.Attribute o "get" apos) [e, f] [] cpos) (tDGet2N td ty tx) := by
  refine ⟨fun pins s σ H Q I h => ?_⟩
  refine wpAny_Call_method m.base m.few m.line PySem.F.plainAttrs_dict PySem.F.slot_dict_get PySem.F.type_dict_get (thn (ho.run pins s σ H _ I h) fun u s1 ⟨x, H1, I1, rx, a, ex, d, q1⟩ => ?_)
  subst ex
  obtain rfl : u = Value.ref a := rx
  obtain ⟨t1, t2, _⟩ := isD_at I1 d
  refine ⟨t1, t2, ?_⟩
  rw [m.trees]
  refine Calls.callWith_builtin rfl (Calls.evalArgs_plain (Calls.spliced_cons (thn (he.run pins s1 σ H1 _ I1 q1) fun iv s2 ⟨y, H2, I2, ry, q2⟩ =>
    Calls.spliced_cons (thn (hf.run pins s2 σ H2 _ I2 q2) fun fv s3 ⟨z, H3, I3, rz, q3⟩ => Calls.spliced_nil ?_))))
  obtain ⟨v, gv, q3⟩ := q3
  rcases gv with ⟨ov, g, rfl⟩ | ⟨kvs, ey, g, rfl⟩
  · exact d_get2 hu I3 g ry rz fun w' s4 I4 rw' => ⟨_, H3, I4, rw', q3⟩
  · subst ey
    obtain rfl : iv = Value.none := ry
    exact d_get2N I3 g fun s4 I4 => ⟨_, H3, I4, rz, q3⟩
end
end My
set_option Elab.async false
set_option linter.all false
set_option maxRecDepth 100000
set_option maxHeartbeats 4000000
/-! Dicts whose keys are tuples of any depth (ints, texts, bools, None, tuples of these). -/
namespace My
open PySem PySem.Spec PyProof.Rows L2
/-! ### keys -/
mutual
/-- the thing x is the key k -/
inductive NIs (β : Bool) (K : PySem.W.Frag) (H : Hp) : NestedKey → V → Prop
  | none : NIs β K H .none .non
  | num (i : Int) : NIs β K H (.num i) (.int i)
  | bl (hb : β = true) (b : Bool) : NIs β K H (.num (if b = true then 1 else 0)) (.bl b)
  | text (x : Str) : NIs β K H (.text x) (.str x)
  | tup {a : Addr} {xs : List V} {ks : List NestedKey} : SqT K H a xs → NAll β K H ks xs → NIs β K H (.tup ks) (.ref a)
inductive NAll (β : Bool) (K : PySem.W.Frag) (H : Hp) : List NestedKey → List V → Prop
  | nil : NAll β K H [] []
  | cons {k : NestedKey} {v : V} {ks : List NestedKey} {vs : List V} : NIs β K H k v → NAll β K H ks vs → NAll β K H (k :: ks) (v :: vs)
end
variable {β : Bool}
/-- at j stands no tuple -/
def NTup (H : Hp) (j : Addr) : Prop := ∀ o, H j = some o → (∀ xs, o ≠ .tup xs) ∧ ∀ ob u, o ≠ .frz ob u
theorem NTup.lst {H : Hp} {j : Addr} {xs : List V} (h : H j = some (.lst xs)) : NTup H j := fun o e => by
  rw [h] at e
  cases e
  exact ⟨(fun _ z => nomatch z), (fun _ _ z => nomatch z)⟩
theorem sqT_keep {K : PySem.W.Frag} {H H' : Hp} {j a : Addr} {xs : List V} (e : Exj j H H') (n : NTup H j) : SqT K H a xs → SqT K H' a xs
  | .inl (.inl h) => .inl (.inl (e a _ (fun z => (n _ (z ▸ h)).1 _ rfl) h))
  | .inl (.inr ⟨o, h⟩) => .inl (.inr ⟨o, e a _ (fun z => (n _ (z ▸ h)).2 _ _ rfl) h⟩)
  | .inr h => .inr h
mutual
theorem NIs.map {K : PySem.W.Frag} {H H' : Hp} (e : ∀ a xs, SqT K H a xs → SqT K H' a xs) : ∀ (k : NestedKey) (v : V), NIs β K H k v → NIs β K H' k v
  | .none, _, h => by
    cases h
    exact .none
  | .num _, _, h => by
    cases h with
    | num => exact .num _
    | bl hb b => exact .bl hb b
  | .text _, _, h => by
    cases h
    exact .text _
  | .tup ks, _, h => by
    cases h with
    | tup h1 h2 => exact .tup (e _ _ h1) (NAll.map e ks _ h2)
theorem NAll.map {K : PySem.W.Frag} {H H' : Hp} (e : ∀ a xs, SqT K H a xs → SqT K H' a xs) : ∀ (ks : List NestedKey) (vs : List V), NAll β K H ks vs → NAll β K H' ks vs
  | [], _, h => by
    cases h
    exact .nil
  | k :: ks, _, h => by
    cases h with
    | cons h1 h2 => exact .cons (NIs.map e k _ h1) (NAll.map e ks _ h2)
end
theorem NIs.keep {K : PySem.W.Frag} {H H' : Hp} {j : Addr} {k : NestedKey} {v : V} (e : Exj j H H') (n : NTup H j) (h : NIs β K H k v) : NIs β K H' k v := NIs.map (fun _ _ => sqT_keep e n) k v h
theorem sqT_exN {K : PySem.W.Frag} {H H' : Hp} {a : Addr} {xs : List V} (e : Ex H H') : SqT K H a xs → SqT K H' a xs
  | .inl (.inl h) => .inl (.inl (e _ _ h))
  | .inl (.inr ⟨o, h⟩) => .inl (.inr ⟨o, e _ _ h⟩)
  | .inr h => .inr h
theorem NIs.ex {K : PySem.W.Frag} {H H' : Hp} {k : NestedKey} {v : V} (e : Ex H H') (h : NIs β K H k v) : NIs β K H' k v := NIs.map (fun _ _ => sqT_exN e) k v h
theorem NAll.ex {K : PySem.W.Frag} {H H' : Hp} {k : List NestedKey} {v : List V} (e : Ex H H') (h : NAll β K H k v) : NAll β K H' k v := NAll.map (fun _ _ => sqT_exN e) k v h
mutual
theorem NIs.up {K : PySem.W.Frag} {H : Hp} : ∀ (k : NestedKey) (v : V), NIs β K H k v → NIs true K H k v
  | .none, _, h => by
    cases h
    exact .none
  | .num _, _, h => by
    cases h with
    | num => exact .num _
    | bl hb b => exact .bl rfl b
  | .text _, _, h => by
    cases h
    exact .text _
  | .tup ks, _, h => by
    cases h with
    | tup h1 h2 => exact .tup h1 (NAll.up ks _ h2)
theorem NAll.up {K : PySem.W.Frag} {H : Hp} : ∀ (ks : List NestedKey) (vs : List V), NAll β K H ks vs → NAll true K H ks vs
  | [], _, h => by
    cases h
    exact .nil
  | k :: ks, _, h => by
    cases h with
    | cons h1 h2 => exact .cons (NIs.up k _ h1) (NAll.up ks _ h2)
end
/-- without bools the things are told by the keys -/
theorem NAll.ints_eq {K : PySem.W.Frag} {H : Hp} : ∀ (ns : List Int) (vs : List V), NAll false K H (ns.map NestedKey.num) vs → vs = ns.map V.int
  | [], _, h => by
    cases h
    rfl
  | n :: ns, _, h => by
    cases h with
    | cons h1 h2 =>
      cases h1 with
      | num => rw [NAll.ints_eq ns _ h2]; rfl
      | bl hb b => exact Bool.noConfusion hb
theorem NAll.ints {K : PySem.W.Frag} {H : Hp} : ∀ ns : List Int, NAll β K H (ns.map NestedKey.num) (ns.map V.int)
  | [] => .nil
  | n :: ns => .cons (.num n) (NAll.ints ns)
theorem NAll.bools {K : PySem.W.Frag} {H : Hp} : ∀ bs : List Bool, NAll true K H (bs.map fun b => NestedKey.num (if b = true then 1 else 0)) (bs.map V.bl)
  | [] => .nil
  | b :: bs => .cons (.bl rfl b) (NAll.bools bs)
section
variable {X : Cx} {pins : List (Addr × Obj)} {σ : L2.St} {H : Hp} {s : Shared}
mutual
theorem nis_is (I : Inv X pins σ H s) : ∀ (k : NestedKey) (x : V) (u : Value), NIs β X.K H k x → RelV x u → NestedIs s.heap k u
  | .none, _, u, h, r => by
    cases h
    cases (show u = Value.none from r)
    exact .none
  | .num _, _, u, h, r => by
    cases h with
    | num =>
      obtain ⟨t, e⟩ := (show ∃ t, u = Value.int _ t from r)
      subst e
      exact .int _ t
    | bl hb b =>
      cases (show u = Value.bool b from r)
      exact .bool rfl
  | .text x, _, u, h, r => by
    cases h
    obtain ⟨t, e⟩ := (show ∃ t, u = Value.str x t from r)
    subst e
    exact .text x t
  | .tup ks, _, u, h, r => by
    cases h with
    | @tup a xs _ h1 h2 =>
      cases (show u = Value.ref a from r)
      obtain ⟨its, rv, ⟨o, e1, e2, n, e3⟩, _⟩ := I.tuple h1
      exact .tup e1 e2 e3 (nall_is I ks xs its h2 rv)
theorem nall_is (I : Inv X pins σ H s) : ∀ (ks : List NestedKey) (xs : List V) (us : List Value), NAll β X.K H ks xs → Vals xs us → NestedAll s.heap ks us
  | [], _, us, h, r => by
    cases h
    cases r
    exact .nil
  | k :: ks, _, us, h, r => by
    cases h with
    | @cons _ v _ vs h1 h2 =>
      cases r with
      | @cons _ u _ us r1 r2 => exact .cons (nis_is I k v u h1 r1) (nall_is I ks vs us h2 r2)
end
end
/-! ### dicts -/
def entN (w : World) (x : NestedKey × Addr × Value) : DictEntry := ⟨x.1.hash w, .ref x.2.1, x.2.2⟩
/-- the object at a is a dict of the entries xs -/
def DNO (w : World) (a : Addr) (xs : List (NestedKey × Addr × Value)) : HO := .ext fun h => ∃ o es ep, h.get? a = some o ∧ o.ExactDict ∧ o.data = .dict es ep ∧ es.toList = xs.map (entN w)
abbrev KN (β : Bool) (K : PySem.W.Frag) (H : Hp) : List (NestedKey × V) → List (NestedKey × Addr × Value) → Prop := Paired fun p q => p.1 = q.1 ∧ (NIs β K H p.1 (.ref q.2.1) ∧ p.1.depth ≤ 8) ∧ RelV p.2 q.2.2
/-- at a stands a dict of these keys and values -/
def IsDN (β : Bool) (K : PySem.W.Frag) (w : World) (H : Hp) (a : Addr) (kvs : List (NestedKey × V)) : Prop := ∃ xs, H a = some (DNO w a xs) ∧ KN β K H kvs xs ∧ kvs.length ≤ sizeLine ∧ (a == sysModules) = false ∧ (xs.map (·.1)).Nodup
/-- .. it may be locked: to be read -/
def RdDN (β : Bool) (K : PySem.W.Frag) (w : World) (H : Hp) (a : Addr) (kvs : List (NestedKey × V)) : Prop := ∃ xs, Rd H a (DNO w a xs) ∧ KN β K H kvs xs ∧ kvs.length ≤ sizeLine ∧ (a == sysModules) = false ∧ (xs.map (·.1)).Nodup
theorem KN.up {K : PySem.W.Frag} {H : Hp} {kvs : List (NestedKey × V)} {xs : List (NestedKey × Addr × Value)} (r : KN β K H kvs xs) : KN true K H kvs xs := Paired.mapP r fun _ _ z => ⟨z.1, ⟨NIs.up _ _ z.2.1.1, z.2.1.2⟩, z.2.2⟩
theorem IsDN.rd {K : PySem.W.Frag} {w : World} {H : Hp} {a : Addr} {kvs : List (NestedKey × V)} : IsDN β K w H a kvs → RdDN true K w H a kvs
  | ⟨xs, h, r, h3⟩ => ⟨xs, .inl h, r.up, h3⟩
theorem IsDN.rdB {K : PySem.W.Frag} {w : World} {H : Hp} {a : Addr} {kvs : List (NestedKey × V)} : IsDN β K w H a kvs → RdDN β K w H a kvs
  | ⟨xs, h, r⟩ => ⟨xs, .inl h, r⟩
theorem RdDN.up {K : PySem.W.Frag} {w : World} {H : Hp} {a : Addr} {kvs : List (NestedKey × V)} : RdDN β K w H a kvs → RdDN true K w H a kvs
  | ⟨xs, h, r, h3⟩ => ⟨xs, h, r.up, h3⟩
theorem RdDN.ex {K : PySem.W.Frag} {w : World} {H H' : Hp} {a : Addr} {kvs : List (NestedKey × V)} (e : Ex H H') (h : RdDN β K w H a kvs) (k : ∀ ks xs, KN β K H ks xs → KN β K H' ks xs) : RdDN β K w H' a kvs := by
  obtain ⟨xs, h1, h2, h3⟩ := h
  refine ⟨xs, ?_, k _ _ h2, h3⟩
  rcases h1 with h1 | ⟨o, h1⟩
  · exact .inl (e _ _ h1)
  · exact .inr ⟨o, e _ _ h1⟩
theorem KN.val {K : PySem.W.Frag} {H : Hp} {kvs : List (NestedKey × V)} {xs : List (NestedKey × Addr × Value)} (r : KN β K H kvs xs) (k : NestedKey) : RelO (valV kvs k) ((atKey xs k).map (·.2)) := by
  induction r with
  | nil => exact True.intro
  | @cons p q ps qs h t ih =>
    obtain ⟨h1, _, h2⟩ := h
    by_cases e : p.1 = k
    · have e' : q.1 = k := h1.symm.trans e
      have b : atKey (q :: qs) k = some q.2 := by simp [atKey, List.find?_cons, e']
      rw [valV_pos e, b]
      exact h2
    · have e' : ¬ q.1 = k := fun z => e (h1.trans z)
      have b : atKey (q :: qs) k = atKey qs k := by simp [atKey, List.find?_cons, e']
      rw [valV_neg e, b]
      exact ih
theorem KN.repl {K : PySem.W.Frag} {H : Hp} {kvs : List (NestedKey × V)} {xs : List (NestedKey × Addr × Value)} (r : KN β K H kvs xs) (k : NestedKey) {y : V} {u : Value} (ry : RelV y u) : KN β K H (kvs.map fun kv => if kv.1 = k then (kv.1, y) else kv) (xs.map (putAt k u)) := by
  induction r with
  | nil => exact .nil
  | @cons p q ps qs h t ih =>
    rw [List.map_cons, List.map_cons]
    refine .cons ?_ ih
    obtain ⟨h1, h2, h3⟩ := h
    unfold putAt
    by_cases e : p.1 = k
    · rw [if_pos e, if_pos (h1.symm.trans e)]
      exact ⟨h1, h2, ry⟩
    · rw [if_neg e, if_neg (fun z => e (h1.trans z))]
      exact ⟨h1, h2, h3⟩
theorem KN.put {K : PySem.W.Frag} {H : Hp} {kvs : List (NestedKey × V)} {xs : List (NestedKey × Addr × Value)} (r : KN β K H kvs xs) (k : NestedKey) {b : Addr} {y : V} {u : Value} (hb : NIs β K H k (.ref b) ∧ k.depth ≤ 8) (ry : RelV y u) : KN β K H (putK kvs k y) (storedH xs k b u) := by
  have e : (kvs.any fun kv => decide (kv.1 = k)) = (atKey xs k).isSome := by
    rw [valV_any, (r.val k).isSome_eq, Option.isSome_map]
  unfold putK storedH
  rw [e]
  by_cases q : (atKey xs k).isSome = true
  · rw [if_pos q, if_pos q]
    exact r.repl k ry
  · rw [if_neg q, if_neg q]
    exact Paired.snoc r ⟨rfl, hb, ry⟩
theorem KN.map {K : PySem.W.Frag} {H H' : Hp} {kvs : List (NestedKey × V)} {xs : List (NestedKey × Addr × Value)} (e : ∀ a ys, SqT K H a ys → SqT K H' a ys) (r : KN β K H kvs xs) : KN β K H' kvs xs :=
  Paired.mapP r fun _ _ z => ⟨z.1, ⟨NIs.map e _ _ z.2.1.1, z.2.1.2⟩, z.2.2⟩
theorem KN.keys {K : PySem.W.Frag} {H : Hp} {kvs : List (NestedKey × V)} {xs : List (NestedKey × Addr × Value)} (r : KN β K H kvs xs) : kvs.map (·.1) = xs.map (·.1) := by
  induction r with
  | nil => rfl
  | cons h t ih => rw [List.map_cons, List.map_cons, ih, h.1]
theorem IsDN.keep {K : PySem.W.Frag} {w : World} {H H' : Hp} {a j : Addr} {kvs : List (NestedKey × V)} (e : Exj j H H') (n : NTup H j) (ha : a ≠ j) : IsDN β K w H a kvs → IsDN β K w H' a kvs
  | ⟨xs, h1, h2, h3⟩ => ⟨xs, e _ _ ha h1, h2.map fun _ _ => sqT_keep e n, h3⟩
theorem IsDN.ex {K : PySem.W.Frag} {w : World} {H H' : Hp} {a : Addr} {kvs : List (NestedKey × V)} (e : Ex H H') : IsDN β K w H a kvs → IsDN β K w H' a kvs
  | ⟨xs, h1, h2, h3⟩ => ⟨xs, e _ _ h1, h2.map fun _ _ => sqT_exN e, h3⟩
theorem IsDN.ntup {K : PySem.W.Frag} {w : World} {H : Hp} {a : Addr} {kvs : List (NestedKey × V)} : IsDN β K w H a kvs → NTup H a
  | ⟨xs, h1, _⟩ => fun o e => by
    rw [h1] at e
    cases e
    exact ⟨(fun _ z => nomatch z), (fun _ _ z => nomatch z)⟩
theorem IsDN.there {K : PySem.W.Frag} {w : World} {H : Hp} {a : Addr} {kvs : List (NestedKey × V)} : IsDN β K w H a kvs → ∃ o, H a = some o
  | ⟨_, h, _⟩ => ⟨_, h⟩
theorem IsDN.ne_lst {K : PySem.W.Frag} {w : World} {H : Hp} {a l : Addr} {kvs : List (NestedKey × V)} {xs : List V} (d : IsDN β K w H a kvs) (h : H l = some (.lst xs)) : l ≠ a := fun z => by
  obtain ⟨ys, e, _⟩ := d
  rw [← z, h] at e
  cases e
theorem IsDN.ne_tup {K : PySem.W.Frag} {w : World} {H : Hp} {a l : Addr} {kvs : List (NestedKey × V)} {xs : List V} (d : IsDN β K w H a kvs) (h : H l = some (.tup xs)) : l ≠ a := fun z => by
  obtain ⟨ys, e, _⟩ := d
  rw [← z, h] at e
  cases e
theorem IsDN.nodup {K : PySem.W.Frag} {w : World} {H : Hp} {a : Addr} {kvs : List (NestedKey × V)} : IsDN β K w H a kvs → (kvs.map (·.1)).Nodup
  | ⟨_, _, r, _, _, n⟩ => by
    rw [KN.keys r]
    exact n
section
variable {X : Cx} {pins : List (Addr × Obj)} {σ : L2.St} {H : Hp} {s : Shared} {a b : Addr} {kvs : List (NestedKey × V)} {k : NestedKey} {v : V} {r : Value} {A : Around} {E : Value → Shared → Prop}
theorem dn_at (I : Inv X pins σ H s) (d : RdDN β X.K X.w H a kvs) : kvs.length ≤ sizeLine ∧ (a == sysModules) = false ∧ ∃ xs, Rd H a (DNO X.w a xs) ∧ KN β X.K H kvs xs ∧ s.heap.DictOfH (nestedKind X.prog X.w) a xs := by
  obtain ⟨xs, h1, h2, h3, h4, h5⟩ := d
  obtain ⟨⟨o, es, ep, e1, e2, e3, e4⟩, _⟩ := (show ObjOk X.prog X.w H s.heap a (DNO X.w a xs) from h1.ok I.hok)
  refine ⟨h3, h4, xs, h1, h2, o, es, ep, e1, e2, e3, e4, fun x hx => ?_, h5⟩
  have all : ∀ {l : List (NestedKey × V)} {m : List (NestedKey × Addr × Value)}, KN β X.K H l m → ∀ x ∈ m, (nestedKind X.prog X.w).is s.heap x.1 x.2.1 := by
    intro l m q
    induction q with
    | nil => intro x hx; exact nomatch hx
    | @cons p q ps qs hq t ih =>
      intro x hx
      rcases List.mem_cons.mp hx with e | hx
      · subst e
        refine ⟨nis_is I _ (.ref x.2.1) _ (by rw [← hq.1]; exact hq.2.1.1) rfl, ?_⟩
        rw [← hq.1]
        exact hq.2.1.2
      · exact ih x hx
  exact all h2 x hx
theorem dn_key (I : Inv X pins σ H s) (h : NIs β X.K H k (.ref b)) (hd : k.depth ≤ 8) : (nestedKind X.prog X.w).is s.heap k b := ⟨nis_is I _ (.ref b) _ h rfl, hd⟩
theorem dn_obj {P : Program} {w : World} {H : Hp} {h : Heap} {xs : List (NestedKey × Addr × Value)} (d : h.DictOfH (nestedKind P w) a xs) : ObjOk P w H h a (DNO w a xs) := by
  obtain ⟨o, es, ep, e1, e2, e3, e4, _⟩ := d
  refine ⟨⟨o, es, ep, e1, e2, e3, e4⟩, ⟨o, e1⟩, ?_⟩
  rintro h1 h2 ⟨o, es, ep, e1, e2, e3, e4⟩ st
  exact ⟨o, es, ep, st _ e1, e2, e3, e4⟩
/-- d[k], there -/
theorem n_getItem {Q : Value → Shared → Prop} (hu : A.units + 9 < cLine) (I : Inv X pins σ H s) (d : RdDN β X.K X.w H a kvs) (hk : NIs β X.K H k (.ref b)) (hd : k.depth ≤ 8) (l : valV kvs k = some v) (h : ∀ w' s', Inv X pins σ H s' → RelV v w' → Q w' s') :
    wpAny (model X.prog X.w) A (getItem (.ref a) (.ref b)) Q E s := by
  obtain ⟨z, hs, xs, _, rel, dd⟩ := dn_at I d
  obtain ⟨w', hw, rw'⟩ := RelO.some_of (v := v) (o := (atKey xs k).map (·.2)) (by rw [← l]; exact rel.val k)
  obtain ⟨p, hp, hp2⟩ := Option.map_eq_some_iff.mp hw
  refine wpAny_getItem_heap (show A.in1.units + 8 < cLine by show A.units + 1 + 8 < cLine; omega) (dn_key I hk hd) dd hp ?_
  rw [hp2]
  exact h w' _ (I.tok _) rw'
theorem n_in {Q : Value → Shared → Prop} (hu : A.units + 9 < cLine) (I : Inv X pins σ H s) (d : RdDN β X.K X.w H a kvs) (hk : NIs β X.K H k (.ref b)) (hd : k.depth ≤ 8) (h : ∀ s', Inv X pins σ H s' → Q (.bool (valV kvs k).isSome) s') :
    wpAny (model X.prog X.w) A (compareOp .In (.ref b) (.ref a)) Q E s := by
  obtain ⟨z, hs, xs, _, rel, dd⟩ := dn_at I d
  refine wpAny_in_heap (show A.in1.units + 8 < cLine by show A.units + 1 + 8 < cLine; omega) (dn_key I hk hd) hs dd ?_
  have q := (rel.val k).isSome_eq
  rw [Option.isSome_map] at q
  rw [← q]
  exact h _ (I.tok _)
theorem n_notIn {Q : Value → Shared → Prop} (hu : A.units + 9 < cLine) (I : Inv X pins σ H s) (d : RdDN β X.K X.w H a kvs) (hk : NIs β X.K H k (.ref b)) (hd : k.depth ≤ 8) (h : ∀ s', Inv X pins σ H s' → Q (.bool (!(valV kvs k).isSome)) s') :
    wpAny (model X.prog X.w) A (compareOp .NotIn (.ref b) (.ref a)) Q E s := by
  obtain ⟨z, hs, xs, _, rel, dd⟩ := dn_at I d
  refine wpAny_notIn_heap (show A.in1.units + 8 < cLine by show A.units + 1 + 8 < cLine; omega) (dn_key I hk hd) hs dd ?_
  have q := (rel.val k).isSome_eq
  rw [Option.isSome_map] at q
  rw [← q]
  exact h _ (I.tok _)
/-- d.get(k, x) -/
theorem n_getOr {x : V} {u : Value} {Q : Value → Shared → Prop} (hu : A.units + 9 < cLine) (I : Inv X pins σ H s) (d : RdDN β X.K X.w H a kvs) (hk : NIs β X.K H k (.ref b)) (hd : k.depth ≤ 8) (rx : RelV x u) (h : ∀ w' s', Inv X pins σ H s' → RelV ((valV kvs k).getD x) w' → Q w' s') :
    wpAny (model X.prog X.w) A (call (.builtin "dict.get") [.ref a, .ref b, u]) Q E s := by
  obtain ⟨z, hs, xs, _, rel, dd⟩ := dn_at I d
  have e : valueAt (pairsH xs) k = (atKey xs k).map (·.2) := valueAt_pairsH xs k
  refine getOr_keyed (kvs := pairsH xs) (show A.in1.units + 8 < cLine by show A.units + 1 + 8 < cLine; omega) (dn_key I hk hd) hs ⟨xs, dd, rfl⟩ ?_
  rw [e]
  exact h _ _ (I.tok _) ((rel.val k).getD rx)
/-- d[k] = v -/
theorem n_setItem {Q : Unit → Shared → Prop} (hu : A.units + 9 < cLine) (I : Inv X pins σ H s) (d : IsDN β X.K X.w H a kvs) (hk : NIs β X.K H k (.ref b)) (hd : k.depth ≤ 8) (rv : RelV v r) (hl : kvs.length < sizeLine)
    (h : ∀ H' s', Inv X pins σ H' s' → Exj a H H' → IsDN β X.K X.w H' a (putK kvs k v) → Q () s') : wpAny (model X.prog X.w) A (setItem (.ref a) (.ref b) r) Q E s := by
  obtain ⟨z, hs, xs, rea, rel, dd⟩ := dn_at I d.rdB
  have ea : Mut (H a) := by
    obtain ⟨_, e, _⟩ := d
    rw [e]
    exact True.intro
  have hz : xs.length ≤ sizeLine := by rw [← Paired.length rel]; exact z
  have hl' : (putK kvs k v).length ≤ sizeLine := by have := length_putK kvs k v; omega
  refine wpAny_setItem_heap (hsz := hz) (show A.in1.units + 8 < cLine by show A.units + 1 + 8 < cLine; omega) (dn_key I hk hd) dd fun h' dd' hs' => ?_
  have hq : ∃ q, h'.get? a = some q := let ⟨q, _, _, hq, _⟩ := dd'; ⟨q, hq⟩
  have ex : Exj a H (L2.upd H a (DNO X.w a (storedH xs k b r))) := (Exj.refl _ _).upd
  have nt := d.ntup
  refine h _ _ (d_write I ea hs' hq (dn_obj dd')) ex ⟨_, upd_same, (rel.put k ⟨hk, hd⟩ rv).map fun _ _ => sqT_keep ex nt, hl', hs, ?_⟩
  obtain ⟨_, _, _, _, _, _, _, _, n⟩ := dd'
  exact n
end
/-! ### readings and rules -/
def tNGet (K : PySem.W.Frag) (w : World) (td ty : TE) : TE := fun σ H Q => td σ H fun x H1 => ty σ H1 fun y H2 => ∃ a b kvs k v, x = .ref a ∧ y = .ref b ∧ RdDN true K w H2 a kvs ∧ NIs true K H2 k (.ref b) ∧ k.depth ≤ 8 ∧ valV kvs k = some v ∧ Q v H2
def tNIn (K : PySem.W.Frag) (w : World) (ty td : TE) : TE := fun σ H Q => ty σ H fun y H1 => td σ H1 fun x H2 => ∃ a b kvs k, x = .ref a ∧ y = .ref b ∧ RdDN true K w H2 a kvs ∧ NIs true K H2 k (.ref b) ∧ k.depth ≤ 8 ∧ Q (.bl (valV kvs k).isSome) H2
def tNNotIn (K : PySem.W.Frag) (w : World) (ty td : TE) : TE := fun σ H Q => ty σ H fun y H1 => td σ H1 fun x H2 => ∃ a b kvs k, x = .ref a ∧ y = .ref b ∧ RdDN true K w H2 a kvs ∧ NIs true K H2 k (.ref b) ∧ k.depth ≤ 8 ∧ Q (.bl (!(valV kvs k).isSome)) H2
def sNPut (K : PySem.W.Frag) (w : World) (td ty tv : TE) : TS := fun D σ H => tv σ H fun v H1 => td σ H1 fun x H2 => ty σ H2 fun y H3 => ∃ a b kvs k β, x = .ref a ∧ y = .ref b ∧ IsDN β K w H3 a kvs ∧ NIs β K H3 k (.ref b) ∧ k.depth ≤ 8 ∧ kvs.length < sizeLine ∧
  ∀ H4, Exj a H3 H4 → IsDN β K w H4 a (putK kvs k v) → D.nx σ H4
def tNNew (K : PySem.W.Frag) (w : World) : TE := fun _ H Q => ∀ p H', H p = none → Ex H H' → (∀ β, IsDN β K w H' p []) → Q (.ref p) H'
section
variable {X : Cx} {o i e value : Expr} {pos pos' tpos : Pos} {td ty tv : TE}
theorem RdDN.typeIs {pins : List (Addr × Obj)} {σ : L2.St} {H : Hp} {s : Shared} {a : Addr} {kvs : List (NestedKey × V)} (I : Inv X pins σ H s) (d : RdDN β X.K X.w H a kvs) : s.TypeIs (.ref a) "dict" := by
  obtain ⟨_, _, xs, _, _, dd⟩ := dn_at I d
  exact dd.typeIs
theorem pe_nget (hu : X.A.units + 64 < cLine) (ho : PE X o td) (hi : PE X i ty) (hs : NoSl i) : PE X (.Subscript o i pos) (tNGet X.K X.w td ty) := by
  refine ⟨fun pins s σ H Q I h => ?_⟩
  refine subD_of PySem.F.slot_dict_getitem.lookup hs (thn (ho.run pins s σ H _ I h) fun u s1 ⟨x, H1, I1, rx, q1⟩ => thn (hi.run pins s1 σ H1 _ I1 q1) fun iv s2 ⟨y, H2, I2, ry, a, b, kvs, k, v, ex, ey, d, hk, hd, l, q2⟩ => ?_)
  subst ex ey
  obtain rfl : u = Value.ref a := rx
  obtain rfl : iv = Value.ref b := ry
  exact ⟨d.typeIs I2, n_getItem (by omega) I2 d hk hd l fun w' s3 I3 rw' => ⟨v, H2, I3, rw', q2⟩⟩
theorem pc_nin (hu : X.A.units + 64 < cLine) (hi : PE X i ty) (ho : PE X o td) : PC X .In i o (tNIn X.K X.w ty td) := by
  refine ⟨fun pins s σ H Q I h => ?_⟩
  refine thn (hi.run pins s σ H _ I h) fun iv s1 ⟨y, H1, I1, ry, q1⟩ => thn (ho.run pins s1 σ H1 _ I1 q1) fun u s2 ⟨x, H2, I2, rx, a, b, kvs, k, ex, ey, d, hk, hd, q2⟩ => ?_
  subst ex ey
  obtain rfl : u = Value.ref a := rx
  obtain rfl : iv = Value.ref b := ry
  exact n_in (by omega) I2 d hk hd fun s3 I3 => ⟨.bl _, H2, I3, rfl, q2⟩
theorem pc_nnotin (hu : X.A.units + 64 < cLine) (hi : PE X i ty) (ho : PE X o td) : PC X .NotIn i o (tNNotIn X.K X.w ty td) := by
  refine ⟨fun pins s σ H Q I h => ?_⟩
  refine thn (hi.run pins s σ H _ I h) fun iv s1 ⟨y, H1, I1, ry, q1⟩ => thn (ho.run pins s1 σ H1 _ I1 q1) fun u s2 ⟨x, H2, I2, rx, a, b, kvs, k, ex, ey, d, hk, hd, q2⟩ => ?_
  subst ex ey
  obtain rfl : u = Value.ref a := rx
  obtain rfl : iv = Value.ref b := ry
  exact n_notIn (by omega) I2 d hk hd fun s3 I3 => ⟨.bl _, H2, I3, rfl, q2⟩
theorem ps_nput (hu : X.A.units + 64 < cLine) (ho : PE X o td) (hi : PE X i ty) (hv : PE X value tv) (hs : swapsWith value (some (.Subscript o i pos')) pos.line X.env = pure false) :
    PS X (.Assign [.Subscript o i pos'] value pos) (sNPut X.K X.w td ty tv) := by
  refine ⟨fun pins s σ H D I h => ?_⟩
  refine wpAny_Assign_Subscript (thn (hv.run pins s σ H _ I h) fun r s1 ⟨v, H1, I1, rv, q1⟩ => thn (ho.run pins s1 σ H1 _ I1 q1) fun u s2 ⟨x, H2, I2, rx, q2⟩ => thn (hi.run pins s2 σ H2 _ I2 q2) fun iv s3 ⟨y, H3, I3, ry, a, b, kvs, k, β, ex, ey, d, hk, hd, hl, q3⟩ => ?_) hs
  subst ex ey
  obtain rfl : u = Value.ref a := rx
  obtain rfl : iv = Value.ref b := ry
  exact n_setItem (by omega) I3 d hk hd rv hl fun H4 s4 I4 e4 d4 => ⟨σ, H4, I4, q3 H4 e4 d4⟩
theorem pe_nnew : PE X (.Dict [] [] pos) (tNNew X.K X.w) := by
  refine ⟨fun pins s σ H Q I h => ?_⟩
  have hp := I.hok.fresh (Nat.le_refl s.heap.objs.size)
  have hb : ((s.heap.objs.size : Addr) == sysModules) = false := beq_eq_false_iff_ne.mpr (Ne.symm (Nat.ne_of_lt I.big))
  have dd : (s.heap.push { cls := .type "dict", data := .dict #[] }).DictOfH (nestedKind X.prog X.w) s.heap.objs.size [] := Heap.DictOfH.new s.heap
  have I1 := I.laid (a := s.heap.objs.size) (o := DNO X.w s.heap.objs.size []) (t' := s.toks) (fun _ _ q => Heap.get?_push_of_some _ q) (Nat.le_refl _) (dn_obj dd)
  exact wpAny_Dict_empty ⟨.ref s.heap.objs.size, _, I1, rfl, h _ _ hp (Evl.Ex.new hp) fun β => ⟨[], upd_same, .nil, Nat.zero_le _, hb, List.nodup_nil⟩⟩
def tNGet2 (K : PySem.W.Frag) (w : World) (td ty tx : TE) : TE := fun σ H Q => td σ H fun x H1 => ∃ a, x = .ref a ∧ (∃ kvs, RdDN true K w H1 a kvs) ∧ ty σ H1 fun y H2 => tx σ H2 fun z H3 => ∃ kvs k b, y = .ref b ∧ RdDN true K w H3 a kvs ∧ NIs true K H3 k (.ref b) ∧ k.depth ≤ 8 ∧ Q ((valV kvs k).getD z) H3
/-- d.get(k, x) -/
theorem pe_nget2 {f : Expr} {tx : TE} {apos cpos : Pos} (hu : X.A.units + 64 < cLine) (ho : PE X o td) (he : PE X e ty) (hf : PE X f tx) (m : M2 X o "get" apos e f cpos) : PE X (.Call (.Attribute o "get" apos) [e, f] [] cpos) (tNGet2 X.K X.w td ty tx) := by
  refine ⟨fun pins s σ H Q I h => ?_⟩
  refine wpAny_Call_method m.base m.few m.line PySem.F.plainAttrs_dict PySem.F.slot_dict_get PySem.F.type_dict_get (thn (ho.run pins s σ H _ I h) fun u s1 ⟨x, H1, I1, rx, a, ex, ⟨kvs0, d0⟩, q1⟩ => ?_)
  subst ex
  obtain rfl : u = Value.ref a := rx
  refine ⟨d0.typeIs I1, fun b q => ?_, ?_⟩
  · cases q
    obtain ⟨_, _, _, _, _, ob, _, _, h1, h2, _⟩ := dn_at I1 d0
    exact ⟨ob, h1, h2.2.1⟩
  rw [m.trees]
  refine Calls.callWith_builtin rfl (Calls.evalArgs_plain (Calls.spliced_cons (thn (he.run pins s1 σ H1 _ I1 q1) fun iv s2 ⟨y, H2, I2, ry, q2⟩ =>
    Calls.spliced_cons (thn (hf.run pins s2 σ H2 _ I2 q2) fun fv s3 ⟨z, H3, I3, rz, q3⟩ => Calls.spliced_nil ?_))))
  obtain ⟨kvs, k, b, ey, d, hk, hd, q3⟩ := q3
  subst ey
  obtain rfl : iv = Value.ref b := ry
  exact n_getOr (by omega) I3 d hk hd rz fun w' s4 I4 rw' => ⟨_, H3, I4, rw', q3⟩
def rLenN (K : PySem.W.Frag) (w : World) : List V → Hp → VK → Prop := fun xs H Q => ∃ (p : Addr) (kvs : List (NestedKey × V)), xs = [.ref p] ∧ RdDN true K w H p kvs ∧ Q (.int ((kvs.length : Nat) : Int)) H
theorem call_lenN : CallR X (.builtin "len") (rLenN X.K X.w) := by
  intro pins s σ H xs us Q I r h
  obtain ⟨p, kvs, rfl, hp, q⟩ := h
  obtain ⟨u, rfl, rx⟩ := vals1 r
  obtain rfl : u = .ref p := rx
  obtain ⟨z, hd, ys, _, rel, dd⟩ := dn_at I hp
  have hl : kvs.length = ys.length := Paired.length rel
  refine call_len_dictH hd dd (by rw [← hl]; rw [sizeLine_eq] at z; omega) ?_
  rw [← hl]
  exact ⟨.int ((kvs.length : Nat) : Int), H, I.tok _, ⟨_, rfl⟩, q⟩
theorem dict_pairsN {prog : Program} {w : World} {A : Around} {E : Value → Shared → Prop} {s : Shared} {env : Env} {keys : List (Option Expr)} {values : List Expr} {pos : Pos} {pairs : List (Sem Value × Sem Value)} {Q : Value → Shared → Prop} (hu : (nestedKind prog w).room A)
    (hshape : (evalEachOpt keys env).zip ((evalEach values env).map fun v => do let x ← v; standAt pos; pure x) = pairs.map fun p => (some p.1, p.2)) (h0 : pairs ≠ []) (hlen : pairs.length ≤ 15)
    (h : wpAny (model prog w) A (evalPairs pairs) (fun vs s₁ => ∃ ps, CarriesH (nestedKind prog w) s₁.heap vs ps ∧ s₁.heap.DictOfH (nestedKind prog w) s.heap.objs.size [] ∧
      ∀ h' tk, h'.DictOfH (nestedKind prog w) s.heap.objs.size (storedAllH [] ps) → Heap.SameBut s.heap.objs.size s₁.heap h' → Q (.ref s.heap.objs.size) { s₁ with heap := h', toks := tk }) E
      { s with heap := s.heap.push { cls := .type "dict", data := .dict #[] } }) :
    wpAny (model prog w) A (eval (.Dict keys values pos) env) Q E s := by
  rw [arm_eval_Dict, hshape, dictDisplay_pairs pairs h0 (by omega)]
  exact wpAny_bind (wpAny_standAt (wpAny_bind (wpAny_subDictH (knd := nestedKind prog w) (Q := fun d s' => wpAny (model prog w) A (pure (Value.ref d)) Q E s') hu hlen
    (wpAny_mono h (fun vs s₁ h₁ => by obtain ⟨ps, hc, hm, hq⟩ := h₁; exact ⟨ps, hc, hm, fun h' tk a b => wpAny_pure (hq h' tk a b)⟩) fun _ _ e => e))))
/-- {k: v} -/
def tNDisp1 (K : PySem.W.Frag) (w : World) (tk tv : TE) : TE := fun σ H Q => ∀ p H1, H p = none → Ex H H1 → H1 p = some (DNO w p []) → tk σ H1 fun x H2 => tv σ H2 fun y H3 => H3 p = some (DNO w p []) ∧ ∃ k b β, x = .ref b ∧ NIs β K H3 k (.ref b) ∧ k.depth ≤ 8 ∧ ∀ H4, Exj p H3 H4 → IsDN β K w H4 p [(k, y)] → Q (.ref p) H4
theorem pe_ndisp1 {k v : Expr} {tk tv : TE} (hu : X.A.units + 64 < cLine) (hk : PE X k tk) (hv : PE X v tv) : PE X (.Dict [some k] [v] pos) (tNDisp1 X.K X.w tk tv) := by
  refine ⟨fun pins s σ H Q I q => ?_⟩
  have hn := I.hok.fresh (Nat.le_refl s.heap.objs.size)
  have hb : ((s.heap.objs.size : Addr) == sysModules) = false := beq_eq_false_iff_ne.mpr (Ne.symm (Nat.ne_of_lt I.big))
  have dd0 : (s.heap.push { cls := .type "dict", data := .dict #[] }).DictOfH (nestedKind X.prog X.w) s.heap.objs.size [] := Heap.DictOfH.new s.heap
  have I1 := I.laid (a := s.heap.objs.size) (o := DNO X.w s.heap.objs.size []) (t' := s.toks) (fun _ _ q => Heap.get?_push_of_some _ q) (Nat.le_refl _) (dn_obj dd0)
  refine dict_pairsN (pairs := pairTrees [some k] [v] X.env pos) (show X.A.units + 8 < cLine by omega) (zip_pairTrees [some k] [v] X.env pos rfl rfl) (fun z => nomatch z) (show 1 ≤ 15 by decide) ?_
  refine pairTrees_cons_walk (thn (hk.run pins _ σ _ _ I1 (q _ _ hn (Evl.Ex.new hn) upd_same)) fun u s1 ⟨x, H2, I2, rx, q1⟩ => thn (hv.run pins s1 σ H2 _ I2 q1) fun r s2 ⟨y, H3, I3, ry, e, kk, b, β, ex, hkk, hd, q2⟩ => ?_)
  subst ex
  obtain rfl : u = Value.ref b := rx
  refine pairTrees_nil_walk ?_
  have d0 : IsDN β X.K X.w H3 s.heap.objs.size [] := ⟨[], e, .nil, Nat.zero_le _, hb, List.nodup_nil⟩
  obtain ⟨_, _, xs, ea, rel, dd⟩ := dn_at I3 d0.rdB
  cases rel
  refine ⟨[(kk, b, r)], ⟨rfl, rfl, dn_key I3 hkk hd, trivial⟩, dd, fun h' tk dd' hs => ?_⟩
  have dd' : h'.DictOfH (nestedKind X.prog X.w) s.heap.objs.size [(kk, b, r)] := dd'
  have hq : ∃ q, h'.get? s.heap.objs.size = some q := let ⟨q, _, _, hq, _⟩ := dd'; ⟨q, hq⟩
  have exj : Exj s.heap.objs.size H3 (L2.upd H3 s.heap.objs.size (DNO X.w s.heap.objs.size [(kk, b, r)])) := (Exj.refl _ _).upd
  have I4 := d_write (t' := tk) I3 (by rw [e]; exact True.intro) hs hq (dn_obj dd')
  exact ⟨.ref s.heap.objs.size, _, I4, rfl, q2 _ exj ⟨_, upd_same, .cons ⟨rfl, ⟨NIs.keep exj d0.ntup hkk, hd⟩, ry⟩ .nil, by show 1 ≤ sizeLine; decide, hb, by simp⟩⟩
end
/-! ### walked by its keys -/
section
variable {P : Program} {w : World} {K : PySem.W.Frag} {tg : Expr} {X : Cx} {pins : List (Addr × Obj)} {σ : L2.St} {H : Hp} {s : Shared} {d : Addr} {o : Obj} {xs : List (NestedKey × Addr × Value)} {es : Array DictEntry} {ep : Nat}
theorem frzN (I : Inv X pins σ H s) (h : H d = some (.frz o (DNO X.w d xs))) : s.heap.get? d = some o ∧ o.ExactDict ∧ ∃ (es : Array DictEntry) (ep : Nat), o.data = .dict es ep ∧ es.size = xs.length ∧ ∀ (i : Nat) q, xs[i]? = some q → es[i]? = some (entN X.w q) := by
  obtain ⟨hd, ⟨o', es, ep, ho, hx, hdt, he⟩, _⟩ := I.hok d _ h
  rw [hd] at ho
  cases ho
  refine ⟨hd, hx, es, ep, hdt, ?_, fun i q e => ?_⟩
  · have := congrArg List.length he
    simpa using this
  · have : es.toList[i]? = some (entN X.w q) := by rw [he, List.getElem?_map, e]; rfl
    simpa using this
def Itkn (w : World) (d : Addr) (o : Obj) (xs : List (NestedKey × Addr × Value)) : It :=
  ⟨fun i H => H d = some (.frz o (DNO w d xs)) ∧ i < xs.length, fun i H x H' => H' = H ∧ ∃ q, xs[i]? = some q ∧ x = .ref q.2.1, fun i H => H d = some (.frz o (DNO w d xs)) ∧ xs.length ≤ i⟩
theorem turn_keysN (it : Addr) (hod : o.data = .dict es ep) : Turn P w K tg (Itkn w d o xs) [it] it (fun i h => h.IsKeyIter it d i xs.length ep) where
  mem := by simp
  obj := fun i h st b hb => by
    have e : b = it := by simpa using hb
    subst e
    obtain ⟨oi, e, c, dd⟩ := st
    exact ⟨oi, e, fun v z => by rw [dd] at z; cases z⟩
  keep := fun i h h' st k => st.at fun oi e => k it (by simp) oi e
  item := by
    intro X hP hw hK hc i pins s σ H E I hf st hg
    subst hP hw hK
    obtain ⟨hd, hi⟩ := hg
    obtain ⟨f0, f1, f2, f3, f4, f5⟩ := hf it (by simp)
    obtain ⟨hgd, hx, es', ep', hdt, hsz, ent⟩ := frzN I hd
    obtain ⟨rfl, rfl⟩ := dict_ep hod hdt
    obtain ⟨q, hq⟩ : ∃ p, xs[i]? = some p := ⟨xs[i], List.getElem?_eq_getElem hi⟩
    refine next_key_item st hgd hdt hsz (ent i q hq) fun h' st' sb => ?_
    have I1 : Inv X pins σ H { s with heap := h' } := I.turned (t' := s.toks) (fun b ob hb e => (sb.2 b hb).trans e) f0 f1 f3 f4 f5
    obtain ⟨oi, e, c, dd⟩ := id st'
    exact ⟨.ref q.2.1, rfl, go_of (s := { s with heap := h' }) e c dd (by decide) ⟨.ref q.2.1, H, I1, rfl, ⟨rfl, q, hq, rfl⟩, st', fun b hb => (hf b hb).1⟩⟩
  done := by
    intro X hP hw hK hc i pins s σ H E I hf st hg
    subst hP hw hK
    obtain ⟨hd, hi⟩ := hg
    obtain ⟨f0, f1, f2, f3, f4, f5⟩ := hf it (by simp)
    obtain ⟨hgd, hx, es', ep', hdt, hsz, ent⟩ := frzN I hd
    obtain ⟨rfl, rfl⟩ := dict_ep hod hdt
    exact next_key_end (I.ok.hd hc) st hgd hdt hsz hi fun h' eb => ⟨rfl, I.turned (t' := s.toks) (fun b ob hb e => eb b ob hb e) f0 f1 f3 f4 f5⟩
  self := fun A i s Q E st h => by
    refine wpAny_pyIter_slot st.typeIs F.slot_dict_keyiterator_iter (wpAny_call_entry F.slot_dict_keyiterator_iter st.typeIs F.entry_dict_keyiterator_iter ?_ (F.args_dict_keyiterator_iter_1 _))
    show wpAny _ _ (ret (.ref it)) _ _ s
    exact wpAny_pure ⟨_, rfl, "dict_keyiterator", _, st.typeIs, F.slot_dict_keyiterator_next.lookup, h⟩
def iKeysN (w : World) (td : TE) : TI := fun σ H R => td σ H fun x H1 => ∃ d o xs, x = .ref d ∧ H1 d = some (.frz o (DNO w d xs)) ∧ (d == sysModules) = false ∧ R (Itkn w d o xs) H1
theorem pi_keysN {e : Expr} {td : TE} (he : PE X e td) : PI X tg e (iKeysN X.w td) := by
  refine ⟨fun pins s σ H R I h => ?_⟩
  refine thn (he.run pins s σ H _ I h) fun u s1 ⟨x, H1, I1, rx, d, o, xs, ex, hd, hs, q⟩ => ?_
  subst ex
  obtain rfl : u = Value.ref d := rx
  obtain ⟨hgd, hx, es, ep, hdt, hsz, ent⟩ := frzN I1 hd
  refine iter_keys hs hgd hx hdt (pi_one (tk := s1.toks) I1 _ (turn_keysN _ hdt) ⟨_, Heap.get?_push_size _ rfl, rfl, ?_⟩ q)
  rw [hsz] <;> rfl
end
/-- the for over the keys of a locked dict -/
theorem for_keysN {w : World} {d : Addr} {o : Obj} {xs : List (NestedKey × Addr × Value)} {g : TG} {tb : TS} {D : Ends} {σ : L2.St} {H : Hp} (Pv : Nat → L2.St → Hp → Prop) (h0 : Pv 0 σ H) (hl : ∀ i σ H, i ≤ xs.length → Pv i σ H → H d = some (.frz o (DNO w d xs)))
    (hs : ∀ i q σ H, xs[i]? = some q → Pv i σ H → g (.ref q.2.1) σ H fun σ2 H2 => tb { D with nx := Pv (i + 1), ct := Pv (i + 1), bk := D.nx } σ2 H2) (hd : ∀ σ H, Pv xs.length σ H → D.nx σ H) :
    ∃ W : Nat → Nat → L2.St → Hp → Prop, (∃ m, W 0 m σ H) ∧ ∀ i m σ H, W i m σ H →
      ((Itkn w d o xs).stop i H ∧ D.nx σ H) ∨ ((Itkn w d o xs).go i H ∧ ∃ N : L2.St → Hp → Prop, (∀ σ' H', N σ' H' → ∃ m', m' < m ∧ W (i + 1) m' σ' H') ∧ ∀ x H', (Itkn w d o xs).yld i H x H' → g x σ H' fun σ2 H2 => tb { D with nx := N, ct := N, bk := D.nx } σ2 H2) := by
  refine ⟨fun i m σ H => m = xs.length - i ∧ i ≤ xs.length ∧ Pv i σ H, ⟨xs.length, by simp, Nat.zero_le _, h0⟩, ?_⟩
  rintro i m σ H ⟨rfl, hi, p⟩
  have q := hl i σ H hi p
  by_cases hlt : i < xs.length
  · refine .inr ⟨⟨q, hlt⟩, Pv (i + 1), fun σ' H' p' => ⟨xs.length - (i + 1), by omega, rfl, hlt, p'⟩, fun x H' y => ?_⟩
    obtain ⟨e, z, hz, rfl⟩ := y
    subst e
    exact hs i z σ _ hz p
  · have e : i = xs.length := by omega
    subst e
    exact .inl ⟨⟨q, Nat.le_refl _⟩, hd σ H p⟩
/-! ### dict(list of pairs) -/
abbrev PairN (β : Bool) (K : PySem.W.Frag) (H : Hp) (p : Addr) (kv : NestedKey × V) : Prop := ∃ b, SqT K H p [.ref b, kv.2] ∧ NIs β K H kv.1 (.ref b) ∧ kv.1.depth ≤ 8
def putAllN (kvs more : List (NestedKey × V)) : List (NestedKey × V) := more.foldl (fun acc kv => putK acc kv.1 kv.2) kvs
theorem putAllN_len : ∀ (more kvs : List (NestedKey × V)), (putAllN kvs more).length ≤ kvs.length + more.length
  | [], kvs => Nat.le_refl _
  | p :: r, kvs => by
    have h1 := putAllN_len r (putK kvs p.1 p.2)
    have h2 := length_putK kvs p.1 p.2
    show (putAllN (putK kvs p.1 p.2) r).length ≤ _
    rw [List.length_cons]
    omega
theorem KN.putAll {K : PySem.W.Frag} {H : Hp} {more : List (NestedKey × V)} {ys : List (NestedKey × Addr × Value)} (r : KN β K H more ys) : ∀ {kvs : List (NestedKey × V)} {xs : List (NestedKey × Addr × Value)}, KN β K H kvs xs → KN β K H (putAllN kvs more) (storedAllH xs ys) := by
  induction r with
  | nil => exact fun q => q
  | @cons p q ps qs h t ih =>
    intro kvs xs r0
    have e : KN β K H (putK kvs p.1 p.2) (storedH xs q.1 q.2.1 q.2.2) := by
      have := r0.put p.1 (b := q.2.1) h.2.1 h.2.2
      rw [← h.1]
      exact this
    exact ih e
section
variable {X : Cx} {pins : List (Addr × Obj)} {σ : L2.St} {H : Hp} {s : Shared}
theorem pairs_ofN (I : Inv X pins σ H s) {ps : List Addr} {kvs : List (NestedKey × V)} (h : Paired (PairN β X.K H) ps kvs) : ∃ xs, KN β X.K H kvs xs ∧ xs.length = ps.length ∧ ∀ (j : Nat) q, xs[j]? = some q → ∃ p, ps[j]? = some p ∧ s.heap.IsTuple p #[.ref q.2.1, q.2.2] := by
  induction h with
  | nil => exact ⟨[], .nil, rfl, fun j q e => by simp at e⟩
  | @cons p kv ps kvs h t ih =>
    obtain ⟨b, h1, h2, h3⟩ := h
    obtain ⟨xs, r, hl, hp⟩ := ih
    obtain ⟨its, rv, ht, _⟩ := I.tuple h1
    obtain ⟨u, y, ei, ru, ry⟩ := vals2 rv
    subst ei
    obtain rfl : u = Value.ref b := ru
    refine ⟨(kv.1, b, y) :: xs, .cons ⟨rfl, ⟨h2, h3⟩, ry⟩ r, by rw [List.length_cons, List.length_cons, hl], fun j q e => ?_⟩
    cases j with
    | zero =>
      obtain rfl : (kv.1, b, y) = q := Option.some.inj e
      obtain ⟨o, e1, e2, n, e3⟩ := ht
      exact ⟨p, rfl, o, e1, e2, n, e3⟩
    | succ j =>
      obtain ⟨b', e1, e2⟩ := hp j q (by simpa using e)
      exact ⟨b', by simpa using e1, e2⟩
end
def rDictN (K : PySem.W.Frag) (w : World) : List V → Hp → VK → Prop := fun xs H Q => ∃ (a : Addr) (ps : List Addr) (kvs : List (NestedKey × V)) (β : Bool), xs = [.ref a] ∧ SqL K H a (ps.map V.ref) ∧ Paired (PairN β K H) ps kvs ∧ ∀ p H', H p = none → Ex H H' → IsDN β K w H' p (putAllN [] kvs) → Q (.ref p) H'
theorem call_dictN {X : Cx} (hcalm : X.calm = true) (hu : X.A.units + 64 < cLine) : CallR X (.type "dict") (rDictN X.K X.w) := by
  intro pins s σ H xs us Q I r q
  obtain ⟨a, ps, kvs, β, ex, hq, hp, q⟩ := q
  subst ex
  obtain ⟨u, eu, rx⟩ := vals1 r
  subst eu
  cases rx
  obtain ⟨its, rv, pl, hz⟩ := I.list hq
  have ei := refs_at rv
  subst ei
  rw [List.length_map] at hz
  obtain ⟨xs, rel, hl, hpr⟩ := pairs_ofN I hp
  obtain ⟨o, n, ho, hc, hd, hdat⟩ := pl
  have P := PairArg.list (prog := X.prog) (w := X.w) a (ps.map Value.ref).toArray (fun j => ps.getD j 0) (xs.map fun q => (Value.ref q.2.1, q.2.2))
  have isk : ∀ x ∈ xs, (nestedKind X.prog X.w).is s.heap x.1 x.2.1 := by
    have all : ∀ {l : List (NestedKey × V)} {m : List (NestedKey × Addr × Value)}, KN β X.K H l m → ∀ x ∈ m, (nestedKind X.prog X.w).is s.heap x.1 x.2.1 := by
      intro l m q
      induction q with
      | nil => intro x hx; exact nomatch hx
      | @cons p q ps qs hq t ih =>
        intro x hx
        rcases List.mem_cons.mp hx with e | hx
        · subst e
          refine ⟨nis_is I _ (.ref x.2.1) _ (by rw [← hq.1]; exact hq.2.1.1) rfl, ?_⟩
          rw [← hq.1]
          exact hq.2.1.2
        · exact ih x hx
    exact all rel
  refine call_dict_pairsH (knd := nestedKind X.prog X.w) (ps := xs) P (I.ok.hd hcalm) (show X.A.units + 1 + 1 + 8 < cLine by omega) ⟨⟨o, n, ho, hc, hd, hdat⟩, by simp [hl], fun j k v e => ?_⟩ ⟨by simp, fun i key v e => ?_⟩ (fun h' hk x hx => nestedKind_stays.stays (fun b ob vs m e _ => hk b ob (Nat.ne_of_lt (Heap.lt_size e)) (fun z => nomatch z) e) (isk x hx)) (by rw [List.length_map, hl]; exact hz) fun h' tk hd' k => ?_
  · rw [List.getElem?_map] at e
    cases e2 : xs[j]? with
    | none =>
      rw [e2] at e
      cases e
    | some q' =>
      rw [e2] at e
      obtain ⟨p, e3, e4⟩ := hpr j q' e2
      have e := Option.some.inj e
      injection e with e5 e6
      subst e5 e6
      have eg : ps.getD j 0 = p := by rw [List.getD_eq_getElem?_getD, e3]; rfl
      refine ⟨by simp [e3], .inl ?_⟩
      show s.heap.IsTuple (ps.getD j 0) _
      rw [eg]
      exact e4
  · have e : (xs.map fun q => (Value.ref q.2.1, q.2.2))[i]? = some (key, v) := e
    rw [List.getElem?_map] at e
    cases e2 : xs[i]? with
    | none =>
      rw [e2] at e
      cases e
    | some q' =>
      rw [e2] at e
      have e := Option.some.inj e
      injection e with e5 e6
      exact ⟨q'.1, q'.2.1, by rw [← e6], e5.symm⟩
  · have hm : (s.heap.objs.size == sysModules) = false := beq_eq_false_iff_ne.mpr (Nat.ne_of_gt I.big)
    have hn := I.hok.fresh (Nat.le_refl s.heap.objs.size)
    have hlen : (putAllN [] kvs).length ≤ sizeLine := by
      refine Nat.le_trans (putAllN_len kvs []) ?_
      rw [List.length_nil, Nat.zero_add, Paired.length rel, hl]
      exact hz
    have ex : Ex H (L2.upd H s.heap.objs.size (DNO X.w s.heap.objs.size (storedAllH [] xs))) := Evl.Ex.new hn
    have nd : ((storedAllH [] xs).map (·.1)).Nodup := by
      obtain ⟨_, _, _, _, _, _, _, _, n⟩ := hd'
      exact n
    exact ⟨.ref s.heap.objs.size, _, I.laid (t' := tk) (fun b ob e => k b ob (fun z => nomatch z) e) (Nat.le_refl _) (dn_obj hd'), rfl, q _ _ hn ex ⟨_, upd_same, (KN.putAll rel .nil).map fun _ _ => sqT_exN ex, hlen, hm, nd⟩⟩
end My
set_option Elab.async false
set_option linter.all false
set_option maxRecDepth 100000
set_option maxHeartbeats 4000000
/-! comprehensions of two clauses -/
namespace My
open PySem PySem.Spec PyProof.Rows L2
/-- the inner clause, of which Nx holds behind -/
def Inn (D : Addr) (g1 : TG) (tt1 : TT) (te : TE) (σ2 : L2.St) (vs1 : List Nat) (J1 : It) (H4 : Hp) (Nx : Hp → Prop) : Prop := ∃ W1 : Nat → Nat → Hp → Prop, (∃ m, W1 0 m H4) ∧ ∀ j k H, W1 j k H →
  (J1.stop j H ∧ Nx H) ∨ (J1.go j H ∧ ∃ Nx1 : Hp → Prop, (∀ H', Nx1 H' → ∃ k', k' < k ∧ W1 (j + 1) k' H') ∧ ∀ x H', J1.yld j H x H' → g1 x (wipe σ2 vs1) H' fun σ3 H5 => wipe σ3 vs1 = wipe σ2 vs1 ∧ tt1 σ3 H5 fun b H6 =>
    if b = true then te σ3 H6 fun y H7 => ∃ acc, H7 D = some (.lst acc) ∧ acc.length < sizeLine ∧ Nx1 (upd H7 D (.lst (acc ++ [y]))) else Nx1 H6)
theorem lc2_in {J1 : It} {n1 : Nat} {G1 : Hp → Prop} {Y1 : Nat → Hp → V → Hp → Prop} (w : Walk J1 n1 G1 Y1) {D : Addr} {g1 : TG} {tt1 : TT} {te : TE} {σ2 : L2.St} {vs1 : List Nat} {H4 : Hp} {Nx : Hp → Prop} (Pv : Nat → Hp → Prop) (h0 : Pv 0 H4) (hG : ∀ i H, i ≤ n1 → Pv i H → G1 H)
    (hs : ∀ i x H H', i < n1 → Pv i H → Y1 i H x H' → g1 x (wipe σ2 vs1) H' fun σ3 H5 => wipe σ3 vs1 = wipe σ2 vs1 ∧ tt1 σ3 H5 fun b H6 =>
      if b = true then te σ3 H6 fun y H7 => ∃ acc, H7 D = some (.lst acc) ∧ acc.length < sizeLine ∧ Pv (i + 1) (upd H7 D (.lst (acc ++ [y]))) else Pv (i + 1) H6) (hd : ∀ H, Pv n1 H → Nx H) : Inn D g1 tt1 te σ2 vs1 J1 H4 Nx := by
  refine ⟨fun i m H => m = n1 - i ∧ i ≤ n1 ∧ Pv i H, ⟨n1, by simp, Nat.zero_le _, h0⟩, ?_⟩
  rintro i m H ⟨rfl, hi, p⟩
  have q := hG i H hi p
  by_cases hlt : i < n1
  · exact .inr ⟨w.goes i H hlt q, Pv (i + 1), fun H' p' => ⟨n1 - (i + 1), by omega, rfl, hlt, p'⟩, fun x H' y => hs i x H H' hlt p (w.yields i H x H' hlt q y)⟩
  · have e : i = n1 := by omega
    subst e
    exact .inl ⟨w.stops H q, hd H p⟩
theorem lc2_out {J : It} {n : Nat} {G : Hp → Prop} {Y : Nat → Hp → V → Hp → Prop} (w : Walk J n G Y) {g : TG} {tt : TT} {wi1 : TI} {g1 : TG} {tt1 : TT} {te : TE} {vs vs1 : List Nat} {σ : L2.St} {H1 : Hp} {D : Addr} {Qd : Hp → Prop} (Pv : Nat → Hp → Prop) (h0 : Pv 0 (upd H1 D (.lst []))) (hG : ∀ i H, i ≤ n → Pv i H → G H)
    (hs : ∀ i x H H', i < n → Pv i H → Y i H x H' → g x (wipe σ vs) H' fun σ2 H2 => wipe σ2 vs = wipe σ vs ∧ tt σ2 H2 fun b H3 =>
      if b = true then wi1 σ2 H3 fun J1 H4 => Inn D g1 tt1 te σ2 vs1 J1 H4 (Pv (i + 1)) else Pv (i + 1) H3) (hd : ∀ H, Pv n H → Qd H) :
    ∃ W : Nat → Nat → Hp → Prop, (∃ m, W 0 m (upd H1 D (.lst []))) ∧ ∀ i m H, W i m H →
      (J.stop i H ∧ Qd H) ∨ (J.go i H ∧ ∃ Nx : Hp → Prop, (∀ H', Nx H' → ∃ m', m' < m ∧ W (i + 1) m' H') ∧ ∀ x H', J.yld i H x H' → g x (wipe σ vs) H' fun σ2 H2 => wipe σ2 vs = wipe σ vs ∧ tt σ2 H2 fun b H3 =>
        if b = true then wi1 σ2 H3 fun J1 H4 => Inn D g1 tt1 te σ2 vs1 J1 H4 Nx else Nx H3) := by
  refine ⟨fun i m H => m = n - i ∧ i ≤ n ∧ Pv i H, ⟨n, by simp, Nat.zero_le _, h0⟩, ?_⟩
  rintro i m H ⟨rfl, hi, p⟩
  have q := hG i H hi p
  by_cases hlt : i < n
  · exact .inr ⟨w.goes i H hlt q, Pv (i + 1), fun H' p' => ⟨n - (i + 1), by omega, rfl, hlt, p'⟩, fun x H' y => hs i x H H' hlt p (w.yields i H x H' hlt q y)⟩
  · have e : i = n := by omega
    subst e
    exact .inl ⟨w.stops H q, hd H p⟩
end My
set_option Elab.async false
set_option linter.all false
set_option maxRecDepth 100000
set_option maxHeartbeats 4000000
/-! A breadth search that keeps a way to each state: ways lead there, no shorter list of moves does. No program in sight. -/
namespace Bfs
section
variable {σ μ : Type} [DecidableEq σ]
def getP (l : List (σ × List μ)) (s : σ) : Option (List μ) := (l.find? fun q => decide (q.1 = s)).map (·.2)
theorem getP_app {l m : List (σ × List μ)} {s : σ} {p : List μ} (h : getP l s = some p) : getP (l ++ m) s = some p := by
  unfold getP at h ⊢
  rw [List.find?_append]
  cases e : l.find? fun q => decide (q.1 = s) with
  | none =>
    rw [e] at h
    cases h
  | some q =>
    rw [e] at h
    exact h
theorem getP_new {l : List (σ × List μ)} {s : σ} {p : List μ} (h : getP l s = none) : getP (l ++ [(s, p)]) s = some p := by
  unfold getP at h ⊢
  rw [List.find?_append]
  cases e : l.find? fun q => decide (q.1 = s) with
  | none =>
    rw [Option.none_or, List.find?_cons_of_pos (by simp)]
    rfl
  | some q =>
    rw [e] at h
    cases h
theorem getP_ne {l : List (σ × List μ)} {s t : σ} {p : List μ} (h : t ≠ s) : getP (l ++ [(t, p)]) s = getP l s := by
  unfold getP
  rw [List.find?_append]
  cases e : l.find? fun q => decide (q.1 = s) with
  | none =>
    rw [Option.none_or, List.find?_cons_of_neg (by simp [h])]
    rfl
  | some q => rfl
structure Bs (σ μ : Type) where
  found : List (σ × List μ)
  later : List σ
variable (step : σ → μ → σ) (moves : List μ)
def turnB (one : σ) (b : Bs σ μ) (m : μ) : Bs σ μ := if (getP b.found (step one m)).isSome = true then b else ⟨b.found ++ [(step one m, ((getP b.found one).getD []) ++ [m])], b.later ++ [step one m]⟩
def rowB (b : Bs σ μ) (one : σ) : Bs σ μ := moves.foldl (turnB step one) b
def layerB (b : Bs σ μ) : Bs σ μ := b.later.foldl (rowB step moves) ⟨b.found, []⟩
def bfsB (s0 : σ) : Nat → Bs σ μ
  | 0 => ⟨[(s0, [])], [s0]⟩
  | k + 1 => layerB step moves (bfsB s0 k)
variable {step moves}
/-- every way leads there; the last layer's states are those with ways of k moves; every state within k moves is told, not later -/
structure Inv (s0 : σ) (k : Nat) (b : Bs σ μ) : Prop where
  way : ∀ s p, getP b.found s = some p → p.foldl step s0 = s ∧ p.length ≤ k ∧ ∀ m ∈ p, m ∈ moves
  last : ∀ s, s ∈ b.later ↔ ∃ p, getP b.found s = some p ∧ p.length = k
  all : ∀ p : List μ, (∀ m ∈ p, m ∈ moves) → p.length ≤ k → ∃ q, getP b.found (p.foldl step s0) = some q ∧ q.length ≤ p.length
/-- while a layer is done -/
structure Mid (s0 : σ) (k : Nat) (f0 : List (σ × List μ)) (b : Bs σ μ) : Prop where
  old : ∀ s p, getP f0 s = some p → getP b.found s = some p
  way : ∀ s p, getP b.found s = some p → getP f0 s = some p ∨ (p.foldl step s0 = s ∧ p.length = k + 1 ∧ ∀ m ∈ p, m ∈ moves)
  last : ∀ s, s ∈ b.later ↔ getP f0 s = none ∧ ∃ p, getP b.found s = some p
theorem Mid.turn {s0 one : σ} {k : Nat} {f0 : List (σ × List μ)} {b : Bs σ μ} {p : List μ} (M : Mid (step := step) (moves := moves) s0 k f0 b) (h1 : getP f0 one = some p) (h2 : p.foldl step s0 = one) (h3 : p.length = k) (h4 : ∀ m ∈ p, m ∈ moves) {m : μ} (hm : m ∈ moves) :
    Mid (step := step) (moves := moves) s0 k f0 (turnB step one b m) ∧ (∃ q, getP (turnB step one b m).found (step one m) = some q) ∧ ∀ s q, getP b.found s = some q → getP (turnB step one b m).found s = some q := by
  unfold turnB
  by_cases c : (getP b.found (step one m)).isSome = true
  · rw [if_pos c]
    exact ⟨M, Option.isSome_iff_exists.mp c, fun s q h => h⟩
  · rw [if_neg c]
    have c : getP b.found (step one m) = none := by
      cases e : getP b.found (step one m) with
      | none => rfl
      | some q => rw [e] at c; exact absurd rfl c
    have ho : getP b.found one = some p := M.old _ _ h1
    rw [ho]
    show Mid s0 k f0 ⟨b.found ++ [(step one m, p ++ [m])], b.later ++ [step one m]⟩ ∧ _
    have fresh : getP f0 (step one m) = none := by
      cases e : getP f0 (step one m) with
      | none => rfl
      | some q => rw [M.old _ _ e] at c; cases c
    refine ⟨⟨fun s q h => getP_app (M.old s q h), fun s q h => ?_, fun s => ?_⟩, ⟨p ++ [m], getP_new c⟩, fun s q h => getP_app h⟩
    · by_cases e : step one m = s
      · subst e
        rw [getP_new c] at h
        cases h
        refine .inr ⟨by rw [List.foldl_append, h2]; rfl, by rw [List.length_append, h3]; rfl, fun x hx => ?_⟩
        rcases List.mem_append.mp hx with z | z
        · exact h4 x z
        · rw [List.mem_singleton.mp z]
          exact hm
      · rw [getP_ne e] at h
        exact M.way s q h
    · rw [List.mem_append, List.mem_singleton, M.last]
      constructor
      · rintro (⟨a, q, hq⟩ | e)
        · exact ⟨a, q, getP_app hq⟩
        · rw [e]
          exact ⟨fresh, p ++ [m], getP_new c⟩
      · rintro ⟨a, q, hq⟩
        by_cases e : step one m = s
        · exact .inr e.symm
        · rw [getP_ne e] at hq
          exact .inl ⟨a, q, hq⟩
theorem Mid.row {s0 one : σ} {k : Nat} {f0 : List (σ × List μ)} {p : List μ} (h1 : getP f0 one = some p) (h2 : p.foldl step s0 = one) (h3 : p.length = k) (h4 : ∀ m ∈ p, m ∈ moves) : ∀ (ms : List μ) (b : Bs σ μ), Mid (step := step) (moves := moves) s0 k f0 b → (∀ m ∈ ms, m ∈ moves) →
    Mid (step := step) (moves := moves) s0 k f0 (ms.foldl (turnB step one) b) ∧ (∀ m ∈ ms, ∃ q, getP (ms.foldl (turnB step one) b).found (step one m) = some q) ∧ ∀ s q, getP b.found s = some q → getP (ms.foldl (turnB step one) b).found s = some q
  | [], b, M, _ => ⟨M, (fun m h => nomatch h), fun s q h => h⟩
  | m :: ms, b, M, hm => by
    obtain ⟨M1, ⟨q1, hq1⟩, k1⟩ := M.turn h1 h2 h3 h4 (hm m List.mem_cons_self)
    obtain ⟨M2, a2, k2⟩ := Mid.row h1 h2 h3 h4 ms _ M1 fun x hx => hm x (List.mem_cons_of_mem _ hx)
    refine ⟨M2, fun x hx => ?_, fun s q h => k2 s q (k1 s q h)⟩
    rcases List.mem_cons.mp hx with e | e
    · rw [e]
      exact ⟨q1, k2 _ _ hq1⟩
    · exact a2 x e
theorem Mid.layer {s0 : σ} {k : Nat} {f0 : List (σ × List μ)} : ∀ (ly : List σ) (b : Bs σ μ), (∀ s ∈ ly, ∃ p, getP f0 s = some p ∧ p.foldl step s0 = s ∧ p.length = k ∧ ∀ m ∈ p, m ∈ moves) → Mid (step := step) (moves := moves) s0 k f0 b →
    Mid (step := step) (moves := moves) s0 k f0 (ly.foldl (rowB step moves) b) ∧ (∀ s ∈ ly, ∀ m ∈ moves, ∃ q, getP (ly.foldl (rowB step moves) b).found (step s m) = some q) ∧ ∀ s q, getP b.found s = some q → getP (ly.foldl (rowB step moves) b).found s = some q
  | [], b, _, M => ⟨M, (fun s h => nomatch h), fun s q h => h⟩
  | one :: ly, b, h, M => by
    obtain ⟨p, h1, h2, h3, h4⟩ := h one List.mem_cons_self
    obtain ⟨M1, a1, k1⟩ := Mid.row h1 h2 h3 h4 moves b M fun m hm => hm
    obtain ⟨M2, a2, k2⟩ := Mid.layer ly _ (fun s hs => h s (List.mem_cons_of_mem _ hs)) M1
    refine ⟨M2, fun s hs m hm => ?_, fun s q hq => k2 s q (k1 s q hq)⟩
    rcases List.mem_cons.mp hs with e | e
    · rw [e]
      obtain ⟨q, hq⟩ := a1 m hm
      exact ⟨q, k2 _ _ hq⟩
    · exact a2 s e m hm
theorem Inv.start (s0 : σ) : Inv (step := step) (moves := moves) s0 0 (bfsB step moves s0 0) := by
  have g : getP (bfsB step moves s0 0).found s0 = some [] := by
    show (List.find? _ [(s0, [])]).map _ = _
    rw [List.find?_cons_of_pos (by simp)]
    rfl
  have n : ∀ s p, getP (bfsB step moves s0 0).found s = some p → s = s0 ∧ p = [] := fun s p h => by
    by_cases e : s0 = s
    · rw [← e, g] at h
      exact ⟨e.symm, (Option.some.inj h).symm⟩
    · have : getP (bfsB step moves s0 0).found s = none := by
        show (List.find? _ [(s0, [])]).map _ = _
        rw [List.find?_cons_of_neg (by simp [e])]
        rfl
      rw [this] at h
      cases h
  refine ⟨fun s p h => ?_, fun s => ?_, fun p hp hl => ?_⟩
  · obtain ⟨rfl, rfl⟩ := n s p h
    exact ⟨rfl, Nat.le_refl _, (fun m hm => nomatch hm)⟩
  · constructor
    · intro hs
      rw [List.mem_singleton.mp hs]
      exact ⟨[], g, rfl⟩
    · rintro ⟨p, h, _⟩
      obtain ⟨rfl, rfl⟩ := n s p h
      exact List.mem_singleton.mpr rfl
  · have : p = [] := List.eq_nil_of_length_eq_zero (by omega)
    rw [this]
    exact ⟨[], g, Nat.le_refl _⟩
theorem Inv.next {s0 : σ} {k : Nat} {b : Bs σ μ} (I : Inv (step := step) (moves := moves) s0 k b) : Inv (step := step) (moves := moves) s0 (k + 1) (layerB step moves b) := by
  have M0 : Mid (step := step) (moves := moves) s0 k b.found ⟨b.found, []⟩ := ⟨fun s p h => h, fun s p h => .inl h, fun s => by
    constructor
    · intro h
      exact nomatch h
    · rintro ⟨a, p, h⟩
      rw [a] at h
      cases h⟩
  obtain ⟨M, a, kp⟩ := Mid.layer b.later ⟨b.found, []⟩ (fun s hs => by
    obtain ⟨p, h1, h2⟩ := (I.last s).mp hs
    obtain ⟨h3, _, h4⟩ := I.way s p h1
    exact ⟨p, h1, h3, h2, h4⟩) M0
  refine ⟨fun s p h => ?_, fun s => ?_, fun p hp hl => ?_⟩
  · rcases M.way s p h with z | z
    · obtain ⟨h1, h2, h3⟩ := I.way s p z
      exact ⟨h1, Nat.le_succ_of_le h2, h3⟩
    · exact ⟨z.1, Nat.le_of_eq z.2.1, z.2.2⟩
  · refine (M.last s).trans ?_
    constructor
    · rintro ⟨h1, p, h2⟩
      rcases M.way s p h2 with z | z
      · rw [h1] at z
        cases z
      · exact ⟨p, h2, z.2.1⟩
    · rintro ⟨p, h1, h2⟩
      rcases M.way s p h1 with z | z
      · have := (I.way s p z).2.1
        omega
      · refine ⟨?_, p, h1⟩
        cases e : getP b.found s with
        | none => rfl
        | some q =>
          have h3 := M.old s q e
          have h4 : getP (layerB step moves b).found s = some q := h3
          rw [h1] at h4
          cases h4
          have := (I.way s p e).2.1
          omega
  · by_cases z : p.length ≤ k
    · obtain ⟨q, h1, h2⟩ := I.all p hp z
      exact ⟨q, M.old _ _ h1, h2⟩
    · rcases List.eq_nil_or_concat p with e | ⟨q, m, e⟩
      · rw [e] at z
        exact absurd (Nat.zero_le _) z
      · rw [List.concat_eq_append] at e
        subst e
        rw [List.length_append, List.length_cons, List.length_nil] at hl z
        have hq : ∀ x ∈ q, x ∈ moves := fun x hx => hp x (List.mem_append_left _ hx)
        have hm : m ∈ moves := hp m (List.mem_append_right _ List.mem_cons_self)
        obtain ⟨r, h1, h2⟩ := I.all q hq (by omega)
        rw [List.foldl_append]
        show ∃ q', getP (layerB step moves b).found (step (q.foldl step s0) m) = some q' ∧ _
        by_cases y : r.length = k
        · obtain ⟨q', hq'⟩ := a _ ((I.last _).mpr ⟨r, h1, y⟩) m hm
          refine ⟨q', hq', ?_⟩
          rw [List.length_append]
          show q'.length ≤ q.length + 1
          rcases M.way _ _ hq' with x | x
          · have := (I.way _ _ x).2.1
            omega
          · omega
        · obtain ⟨e1, e2, e3⟩ := I.way _ _ h1
          have el : (r ++ [m]).length ≤ k := by
            rw [List.length_append]
            show r.length + 1 ≤ k
            omega
          obtain ⟨q', h3, h4⟩ := I.all (r ++ [m]) (fun x hx => by
            rcases List.mem_append.mp hx with u | u
            · exact e3 x u
            · rw [List.mem_singleton.mp u]; exact hm) el
          rw [List.foldl_append, e1] at h3
          refine ⟨q', M.old _ _ h3, ?_⟩
          rw [List.length_append] at h4 ⊢
          have : r.length + 1 ≤ q.length + 1 := by omega
          exact Nat.le_trans h4 this
theorem Inv.bfs (s0 : σ) : ∀ k, Inv (step := step) (moves := moves) s0 k (bfsB step moves s0 k)
  | 0 => Inv.start s0
  | k + 1 => (Inv.bfs s0 k).next
end
end Bfs
set_option Elab.async false
set_option linter.all false
set_option maxRecDepth 100000
set_option maxHeartbeats 4000000
/-! tuple * int, once or more; slices and sums of tuples, any; the new one behind a letter. -/
namespace My
open PySem PySem.Spec PyProof.Rows L2
theorem tuple_mul1 (l : Addr) (items : Array Value) (n : Nat) (dd : Option Addr) (sl : Array (Option Value)) (u : Tok) :
    Meets (Builtin.«tuple.__mul__» ⟨[.ref l, .int 1 u], []⟩) (fun _ R s => s.heap.get? l = some { cls := .type "tuple", dict := dd, data := .seq items n, slots := sl } ∧
      R (.ok (.ret (Value.ref l))) s) :=
  .of_wp fun prog w A R s h => by
    obtain ⟨hp, g, d, tk, os⟩ := s
    obtain ⟨hl, h⟩ := h
    have f1 := AutoSeq1.idx_int
    have c1 : (items.isEmpty || (1 : Int) == 1) = true := by simp
    wp_walk using wpAny_loadPart' hl
    repeat (first
      | (refine wpAny_ite_false (decide_eq_false (by decide)) ?_; wp_walk using wpAny_loadPart' hl)
      | (refine wpAny_ite_true (decide_eq_true c1) ?_; wp_walk using wpAny_loadPart' hl))
    exact ⟨_, rfl, h⟩
section
variable {X : Cx}
/-- t * k, once or more -/
def rRepU (K : PySem.W.Frag) : R2 := fun x y H Q => ∃ l k xs, x = .ref l ∧ y = .int k ∧ SqT K H l xs ∧ xs ≠ [] ∧ 1 ≤ k ∧ k ≤ 1000 ∧ xs.length ≤ 1000 ∧ ∀ p H', Ex H H' → SqT K H' p (List.replicate k.toNat xs).flatten → Q (.ref p) H'
theorem op_repU : OpR X (binaryOp .Mult) (rRepU X.K) := by
  intro pins s σ H x y v u Q I rx ry h
  obtain ⟨l, k, xs, rfl, rfl, hT, hne, h1, h2, hz, q⟩ := h
  by_cases hk : k = 1
  · subst hk
    cases rx
    obtain ⟨t, rfl⟩ := ry
    obtain ⟨its, r, ⟨⟨cls, dd, data, sl⟩, ho, hc, n, hd⟩, hs⟩ := I.tuple hT
    simp only at hc hd
    subst hc hd
    refine wpAny_binaryOp_repeat_ref (T := "tuple") (U := "int") (by decide) ⟨_, ho, rfl⟩ (fun s' => typeIs_int s' 1 t) noFill_tuple_mul F.fills_int_mul F.slot_int_rmul repeat_tuple F.slot_int_index.lookup
      (call_meets F.slot_int_rmul (typeIs_int s 1 t) F.entry_int_rmul (F.args_int_rmul_2 _ _) (int_rmul_tuple 1 t l its.toArray n dd sl)
        ⟨ho, rfl, ⟨_, ho, rfl⟩, call_meets F.slot_tuple_mul ⟨_, ho, rfl⟩ F.entry_tuple_mul (F.args_tuple_mul_2 _ _) (tuple_mul1 l its.toArray n dd sl t) ⟨ho, ?_⟩⟩)
    exact ⟨.ref l, H, I, rfl, q l H (Evl.Ex.refl _) (by show SqT X.K H l ((List.replicate 1 xs).flatten); simpa using hT)⟩
  · exact op_repT pins s σ H _ _ v u Q I rx ry ⟨l, k, xs, rfl, rfl, hT, hne, by omega, h2, hz, fun p hp => q p _ (Evl.Ex.new hp) (.inl (.inl upd_same))⟩
def rCatU (K : PySem.W.Frag) : R2 := fun x y H Q => ∃ a b xs ys, x = .ref a ∧ y = .ref b ∧ SqT K H a xs ∧ SqT K H b ys ∧ xs.length + ys.length ≤ sizeLine ∧ ∀ p H', Ex H H' → SqT K H' p (xs ++ ys) → Q (.ref p) H'
theorem op_catU : OpR X (binaryOp .Add) (rCatU X.K) := fun pins s σ H x y v u Q I rx ry ⟨a, b, xs, ys, h1, h2, h3, h4, h5, q⟩ => op_catA pins s σ H x y v u Q I rx ry ⟨a, b, xs, ys, h1, h2, h3, h4, h5, fun e => q b H (Evl.Ex.refl _) (by rw [e]; exact h4), fun _ e => q a H (Evl.Ex.refl _) (by rw [e, List.append_nil]; exact h3), fun _ _ p hp => q p _ (Evl.Ex.new hp) (.inl (.inl upd_same))⟩
def rSlU (K : PySem.W.Frag) : V → Option Int → Option Int → Hp → VK → Prop := fun x lo hi H Q => ∃ a xs, x = .ref a ∧ SqT K H a xs ∧ ∀ p H', Ex H H' → SqT K H' p (cutV xs lo hi) → Q (.ref p) H'
theorem sl_tupU : SlR X (rSlU X.K) := fun pins s σ H x v vl vu lo hi sl Q I rx hs pl pu ⟨a, xs, h1, h2, q⟩ => sl_tupA pins s σ H x v vl vu lo hi sl Q I rx hs pl pu ⟨a, xs, h1, h2, fun e => q a H (Evl.Ex.refl _) (by
  have : cutV xs lo hi = xs := by
    unfold cutV
    rw [e.1, e.2]
    simp
  rw [this]
  exact h2), fun _ p hp => q p _ (Evl.Ex.new hp) (.inl (.inl upd_same))⟩
end
end My
set_option Elab.async false
set_option linter.all false
set_option maxRecDepth 100000
set_option maxHeartbeats 4000000
/-! d.get(k) where k may be None -/
namespace My
open PySem PySem.Spec PyProof.Rows L2
section
variable {X : Cx} {pins : List (Addr × Obj)} {σ : L2.St} {H : Hp} {s : Shared} {a : Addr} {kvs : List (Key × V)} {A : Around} {E : Value → Shared → Prop}
theorem d_get1N {Q : Value → Shared → Prop} (I : Inv X pins σ H s) (e : Rd H a (.dK kvs)) (h : ∀ s', Inv X pins σ H s' → Q .none s') :
    wpAny (model X.prog X.w) A (call (.builtin "dict.get") [.ref a, .none]) Q E s := by
  obtain ⟨_, hd, vs, _, dd⟩ := dk_rd I.hok e
  obtain ⟨f, hm, hf⟩ := none_map dd
  refine call_meetsIn PySem.F.slot_dict_get dd.typeIs PySem.F.entry_dict_get (PySem.F.args_dict_get_2 _ _) (meets_dict_get (noneKind X.prog X.w) a (show (noneKind X.prog X.w).is none .none = true from rfl) hd) ⟨_, hm, ?_⟩
  rw [hf]
  exact h _ (I.tok _)
def tDGet1N (td ty : TE) : TE := fun σ H Q => td σ H fun x H1 => ∃ a, x = .ref a ∧ IsD H1 a ∧ ty σ H1 fun y H2 => ∃ v, GetV H2 a y .non v ∧ Q v H2
end
section
variable {X : Cx} {o e : Expr} {apos cpos : Pos} {td ty : TE}
theorem pe_dget1N (hu : X.A.units + 1 < cLine) (ho : PE X o td) (he : PE X e ty) (m : M1 X o "get" apos e cpos) : PE X (.Call (.Attribute o "get" apos) [e] [] cpos) (tDGet1N td ty) := by
  refine ⟨fun pins s σ H Q I h => ?_⟩
  refine wpAny_Call_method m.base m.few m.line PySem.F.plainAttrs_dict PySem.F.slot_dict_get PySem.F.type_dict_get (thn (ho.run pins s σ H _ I h) fun u s1 ⟨x, H1, I1, rx, a, ex, d, q1⟩ => ?_)
  subst ex
  obtain rfl : u = Value.ref a := rx
  obtain ⟨t1, t2, _⟩ := isD_at I1 d
  refine ⟨t1, t2, ?_⟩
  rw [m.trees]
  refine Calls.callWith_builtin rfl (Calls.evalArgs_plain (Calls.spliced_cons (thn (he.run pins s1 σ H1 _ I1 q1) fun iv s2 ⟨y, H2, I2, ry, v, gv, q2⟩ => Calls.spliced_nil ?_)))
  rcases gv with ⟨ov, g, rfl⟩ | ⟨kvs, ey, g, rfl⟩
  · exact d_get1 hu I2 g ry fun w' s3 I3 rw' => ⟨_, H2, I3, rw', q2⟩
  · subst ey
    obtain rfl : iv = Value.none := ry
    exact d_get1N I2 g fun s3 I3 => ⟨.non, H2, I3, rfl, q2⟩
end
end My
set_option Elab.async false
set_option linter.all false
set_option maxRecDepth 100000
set_option maxHeartbeats 4000000
/-! xs < ys of alike data (lists, tuples, nested). -/
namespace My
open PySem PySem.Spec PyProof.Rows L2
open PySem.W (alike dataLt)
section
variable {X : Cx}
def rLtD (K : PySem.W.Frag) : R2 := fun x y H Q => ∃ d e, Dp K H x d ∧ Dp K H y e ∧ alike d e = true ∧ d ≠ .none ∧ d.depth ≤ 60 ∧ Q (.bl (dataLt d e)) H
theorem op_ltD (hu : X.A.units + 65 < cLine) : OpR X (compareOp .Lt) (rLtD X.K) := by
  intro pins s σ H x y v u Q I rx ry ⟨d, e, hd, he, ha, hn, hdep, q⟩
  obtain ⟨as, r1⟩ := Dp.reads I d x v hd rx
  obtain ⟨bs, r2⟩ := Dp.reads I e y u he ry
  exact PySem.W.lt_data r1 r2 ha hn (by omega) ⟨.bl _, H, I, rfl, q⟩
end
end My
set_option Elab.async false
set_option linter.all false
set_option maxRecDepth 100000
set_option maxHeartbeats 4000000
namespace K31
open PySem L2 My
def topS (i : Nat) : Stmt := PySem.Challenge.pw_listwindow_k31_covers_and_makers.main.body.getD i (.Pass ⟨0, 0, 0, 0⟩)
abbrev PR : Program := PySem.Challenge.pw_listwindow_k31_covers_and_makers
abbrev s_init : Stmt := inClass (topS 1) 0
abbrev s_check_there : Stmt := topS 11
theorem sc_check_there : FnScope ["there"] ["there"] (defScope s_check_there) := ⟨rfl, rfl, rfl, by decide +kernel, rfl, by decide +kernel, by decide +kernel⟩
abbrev s_are_marks : Stmt := topS 12
theorem sc_are_marks : FnScope ["marks", "one", "other"] ["marks"] (defScope s_are_marks) := ⟨rfl, rfl, rfl, by decide +kernel, rfl, by decide +kernel, by decide +kernel⟩
abbrev s_check_marks_there : Stmt := topS 13
theorem sc_check_marks_there : FnScope ["there", "marks", "row"] ["there", "marks"] (defScope s_check_marks_there) := ⟨rfl, rfl, rfl, by decide +kernel, rfl, by decide +kernel, by decide +kernel⟩
abbrev s_check_clicks : Stmt := topS 14
theorem sc_check_clicks : FnScope ["there", "clicks", "click", "word", "position"] ["there", "clicks"] (defScope s_check_clicks) := ⟨rfl, rfl, rfl, by decide +kernel, rfl, by decide +kernel, by decide +kernel⟩
abbrev s_places_of : Stmt := topS 15
theorem sc_places_of : FnScope ["there", "place", "row"] ["there"] (defScope s_places_of) := ⟨rfl, rfl, rfl, by decide +kernel, rfl, by decide +kernel, by decide +kernel⟩
abbrev s_marked_in : Stmt := topS 16
theorem sc_marked_in : FnScope ["there", "marks", "anchor", "clicks", "places", "found", "word", "position", "row", "first", "last", "is_marked", "other"] ["there", "marks", "anchor", "clicks"] (defScope s_marked_in) := ⟨rfl, rfl, rfl, by decide +kernel, rfl, by decide +kernel, by decide +kernel⟩
abbrev s_borders_in : Stmt := topS 17
theorem sc_borders_in : FnScope ["there", "marks", "flags", "row", "place"] ["there", "marks"] (defScope s_borders_in) := ⟨rfl, rfl, rfl, by decide +kernel, rfl, by decide +kernel, by decide +kernel⟩
abbrev s_blocks_of : Stmt := topS 18
theorem sc_blocks_of : FnScope ["places", "found", "border"] ["places"] (defScope s_blocks_of) := ⟨rfl, rfl, rfl, by decide +kernel, rfl, by decide +kernel, by decide +kernel⟩
abbrev s_cost_in : Stmt := topS 19
theorem sc_cost_in : FnScope ["there", "marks", "first", "last"] ["there", "marks"] (defScope s_cost_in) := ⟨rfl, rfl, rfl, by decide +kernel, rfl, by decide +kernel, by decide +kernel⟩
abbrev s_check_case : Stmt := topS 21
theorem sc_check_case : FnScope ["there", "marks"] ["there", "marks"] (defScope s_check_case) := ⟨rfl, rfl, rfl, by decide +kernel, rfl, by decide +kernel, by decide +kernel⟩
abbrev s_numbers_of_covers : Stmt := topS 22
theorem sc_numbers_of_covers : FnScope ["blocks", "found", "first", "last", "size"] ["blocks"] (defScope s_numbers_of_covers) := ⟨rfl, rfl, rfl, by decide +kernel, rfl, by decide +kernel, by decide +kernel⟩
abbrev s_count_covers : Stmt := topS 23
theorem sc_count_covers : FnScope ["there", "marks", "found", "number"] ["there", "marks"] (defScope s_count_covers) := ⟨rfl, rfl, rfl, by decide +kernel, rfl, by decide +kernel, by decide +kernel⟩
abbrev s_block_cover : Stmt := topS 24
theorem sc_block_cover : FnScope ["block", "choice", "first", "last", "tokens", "border"] ["block", "choice"] (defScope s_block_cover) := ⟨rfl, rfl, rfl, by decide +kernel, rfl, by decide +kernel, by decide +kernel⟩
abbrev s_cover_in : Stmt := topS 25
theorem sc_cover_in : FnScope ["there", "marks", "index", "blocks", "choices", "number", "found", "block", "choice"] ["there", "marks", "index"] (defScope s_cover_in) := ⟨rfl, rfl, rfl, by decide +kernel, rfl, by decide +kernel, by decide +kernel⟩
abbrev s_cover_at : Stmt := topS 26
theorem sc_cover_at : FnScope ["there", "marks", "index", "number"] ["there", "marks", "index"] (defScope s_cover_at) := ⟨rfl, rfl, rfl, by decide +kernel, rfl, by decide +kernel, by decide +kernel⟩
abbrev s_clicks_in : Stmt := topS 27
theorem sc_clicks_in : FnScope ["cover", "singles", "found", "place", "token"] ["cover"] (defScope s_clicks_in) := ⟨rfl, rfl, rfl, by decide +kernel, rfl, by decide +kernel, by decide +kernel⟩
abbrev s_is_token : Stmt := topS 28
theorem sc_is_token : FnScope ["token"] ["token"] (defScope s_is_token) := ⟨rfl, rfl, rfl, by decide +kernel, rfl, by decide +kernel, by decide +kernel⟩
abbrev s_is_best_cover : Stmt := topS 29
theorem sc_is_best_cover : FnScope ["there", "marks", "cover", "token", "border"] ["there", "marks", "cover"] (defScope s_is_best_cover) := ⟨rfl, rfl, rfl, by decide +kernel, rfl, by decide +kernel, by decide +kernel⟩
abbrev s_clicks_of_cover : Stmt := topS 30
theorem sc_clicks_of_cover : FnScope ["there", "marks", "cover"] ["there", "marks", "cover"] (defScope s_clicks_of_cover) := ⟨rfl, rfl, rfl, by decide +kernel, rfl, by decide +kernel, by decide +kernel⟩
abbrev s_is_cheapest : Stmt := topS 31
theorem sc_is_cheapest : FnScope ["there", "marks", "clicks"] ["there", "marks", "clicks"] (defScope s_is_cheapest) := ⟨rfl, rfl, rfl, by decide +kernel, rfl, by decide +kernel, by decide +kernel⟩
abbrev s_makers_in : Stmt := topS 32
theorem sc_makers_in : FnScope ["there", "clicks", "marks", "anchor", "before", "made", "index", "click", "behind", "border"] ["there", "clicks"] (defScope s_makers_in) := ⟨rfl, rfl, rfl, by decide +kernel, rfl, by decide +kernel, by decide +kernel⟩
abbrev s_makers : Stmt := topS 33
theorem sc_makers : FnScope ["there", "clicks"] ["there", "clicks"] (defScope s_makers) := ⟨rfl, rfl, rfl, by decide +kernel, rfl, by decide +kernel, by decide +kernel⟩
abbrev s_idle_clicks : Stmt := topS 34
theorem sc_idle_clicks : FnScope ["there", "clicks", "used", "border", "index"] ["there", "clicks"] (defScope s_idle_clicks) := ⟨rfl, rfl, rfl, by decide +kernel, rfl, by decide +kernel, by decide +kernel⟩
abbrev s_cheapest_in : Stmt := topS 36
theorem sc_cheapest_in : FnScope ["there", "marks"] ["there", "marks"] (defScope s_cheapest_in) := ⟨rfl, rfl, rfl, by decide +kernel, rfl, by decide +kernel, by decide +kernel⟩
abbrev s_cheapest_clicks : Stmt := topS 37
theorem sc_cheapest_clicks : FnScope ["there", "marks"] ["there", "marks"] (defScope s_cheapest_clicks) := ⟨rfl, rfl, rfl, by decide +kernel, rfl, by decide +kernel, by decide +kernel⟩
abbrev s__law_source : Stmt := topS 39
theorem sc__law_source : FnScope ["_law_script", "_law_index", "_law_cell"] ["_law_script", "_law_index"] (defScope s__law_source) := ⟨rfl, rfl, rfl, by decide +kernel, rfl, by decide +kernel, by decide +kernel⟩
abbrev s__law_draw : Stmt := topS 40
theorem sc__law_draw : FnScope ["_law_source_here", "_law_bound", "_law_digit", "_law_mixed"] ["_law_source_here", "_law_bound"] (defScope s__law_draw) := ⟨rfl, rfl, rfl, by decide +kernel, rfl, by decide +kernel, by decide +kernel⟩
abbrev s__law_some : Stmt := topS 41
theorem sc__law_some : FnScope ["_law_source_here", "_law_things", "_law_size", "_law_left", "_law_step"] ["_law_source_here", "_law_things", "_law_size"] (defScope s__law_some) := ⟨rfl, rfl, rfl, by decide +kernel, rfl, by decide +kernel, by decide +kernel⟩
abbrev s__law_clicks : Stmt := topS 42
theorem sc__law_clicks : FnScope ["_law_source_here", "_law_size", "_law_many", "_law_found", "_law_number_here"] ["_law_source_here", "_law_size", "_law_many"] (defScope s__law_clicks) := ⟨rfl, rfl, rfl, by decide +kernel, rfl, by decide +kernel, by decide +kernel⟩
abbrev s__law_done : Stmt := topS 43
theorem sc__law_done : FnScope ["_law_there", "_law_marks_here", "_law_anchor", "_law_clicks_here", "_law_now", "_law_word", "_law_position", "_law_row", "_law_at", "_law_wanted", "_law_place"] ["_law_there", "_law_marks_here", "_law_anchor", "_law_clicks_here"] (defScope s__law_done) := ⟨rfl, rfl, rfl, by decide +kernel, rfl, by decide +kernel, by decide +kernel⟩
abbrev s__law_borders : Stmt := topS 44
theorem sc__law_borders : FnScope ["_law_there", "_law_marks_here", "_law_found", "_law_place", "_law_ahead"] ["_law_there", "_law_marks_here"] (defScope s__law_borders) := ⟨rfl, rfl, rfl, by decide +kernel, rfl, by decide +kernel, by decide +kernel⟩
abbrev s__law_covers : Stmt := topS 46
theorem sc__law_covers : FnScope ["_law_found", "_law_ways", "_law_least", "_law_cover", "_law_way"] ["_law_found"] (defScope s__law_covers) := ⟨rfl, rfl, rfl, by decide +kernel, rfl, by decide +kernel, by decide +kernel⟩
abbrev s__law_number : Stmt := topS 47
theorem sc__law_number : FnScope ["_law_found", "_law_told", "_law_place", "_law_ways", "_law_least", "_law_size", "_law_number_here"] ["_law_found"] (defScope s__law_number) := ⟨rfl, rfl, rfl, by decide +kernel, rfl, by decide +kernel, by decide +kernel⟩
abbrev s__law_marks : Stmt := topS 48
theorem sc__law_marks : FnScope ["_law_source_here", "_law_there", "_law_way", "_law_found", "_law_place", "_law_turn"] ["_law_source_here", "_law_there"] (defScope s__law_marks) := ⟨rfl, rfl, rfl, by decide +kernel, rfl, by decide +kernel, by decide +kernel⟩
abbrev s__law_cover_right : Stmt := topS 49
theorem sc__law_cover_right : FnScope ["_law_source_here", "_law_there", "_law_marks_here", "_law_index", "_law_cover", "_law_clicks_here", "_law_singles", "_law_due", "_law_place", "_law_some_here", "_law_told", "_law_is_right", "_law_token"] ["_law_source_here", "_law_there", "_law_marks_here", "_law_index", "_law_cover"] (defScope s__law_cover_right) := ⟨rfl, rfl, rfl, by decide +kernel, rfl, by decide +kernel, by decide +kernel⟩
abbrev s__law_makers_right : Stmt := topS 50
theorem sc__law_makers_right : FnScope ["_law_there", "_law_clicks_here", "_law_marks_here", "_law_anchor", "_law_made", "_law_index", "_law_before", "_law_border", "_law_due", "_law_used", "_law_told", "_law_idle"] ["_law_there", "_law_clicks_here"] (defScope s__law_makers_right) := ⟨rfl, rfl, rfl, by decide +kernel, rfl, by decide +kernel, by decide +kernel⟩
abbrev s_law : Stmt := topS 51
theorem sc_law : FnScope ["_law_script", "_law_index", "_law_source_here", "_law_size", "_law_there", "_law_marks_here", "_law_found", "_law_least", "_law_number_here", "_law_covers_here", "_law_turn", "_law_at", "_law_cover", "_law_told", "_law_token"] ["_law_script"] (defScope s_law) := ⟨rfl, rfl, rfl, by decide +kernel, rfl, by decide +kernel, by decide +kernel⟩
structure Txt (K : PySem.W.Frag) (mg : Str → Option Value) where
  a_check_there : Addr
  d_check_there : FuncData
  f_check_there : Fun K "check_there" "check_there" s_check_there a_check_there d_check_there
  g_check_there : mg "check_there" = some (.ref a_check_there)
  a_are_marks : Addr
  d_are_marks : FuncData
  f_are_marks : Fun K "are_marks" "are_marks" s_are_marks a_are_marks d_are_marks
  g_are_marks : mg "are_marks" = some (.ref a_are_marks)
  a_check_marks_there : Addr
  d_check_marks_there : FuncData
  f_check_marks_there : Fun K "check_marks_there" "check_marks_there" s_check_marks_there a_check_marks_there d_check_marks_there
  g_check_marks_there : mg "check_marks_there" = some (.ref a_check_marks_there)
  a_check_clicks : Addr
  d_check_clicks : FuncData
  f_check_clicks : Fun K "check_clicks" "check_clicks" s_check_clicks a_check_clicks d_check_clicks
  g_check_clicks : mg "check_clicks" = some (.ref a_check_clicks)
  a_places_of : Addr
  d_places_of : FuncData
  f_places_of : Fun K "places_of" "places_of" s_places_of a_places_of d_places_of
  g_places_of : mg "places_of" = some (.ref a_places_of)
  a_marked_in : Addr
  d_marked_in : FuncData
  f_marked_in : Fun K "marked_in" "marked_in" s_marked_in a_marked_in d_marked_in
  g_marked_in : mg "marked_in" = some (.ref a_marked_in)
  a_borders_in : Addr
  d_borders_in : FuncData
  f_borders_in : Fun K "borders_in" "borders_in" s_borders_in a_borders_in d_borders_in
  g_borders_in : mg "borders_in" = some (.ref a_borders_in)
  a_blocks_of : Addr
  d_blocks_of : FuncData
  f_blocks_of : Fun K "blocks_of" "blocks_of" s_blocks_of a_blocks_of d_blocks_of
  g_blocks_of : mg "blocks_of" = some (.ref a_blocks_of)
  a_cost_in : Addr
  d_cost_in : FuncData
  f_cost_in : Fun K "cost_in" "cost_in" s_cost_in a_cost_in d_cost_in
  g_cost_in : mg "cost_in" = some (.ref a_cost_in)
  a_check_case : Addr
  d_check_case : FuncData
  f_check_case : Fun K "check_case" "check_case" s_check_case a_check_case d_check_case
  g_check_case : mg "check_case" = some (.ref a_check_case)
  a_numbers_of_covers : Addr
  d_numbers_of_covers : FuncData
  f_numbers_of_covers : Fun K "numbers_of_covers" "numbers_of_covers" s_numbers_of_covers a_numbers_of_covers d_numbers_of_covers
  g_numbers_of_covers : mg "numbers_of_covers" = some (.ref a_numbers_of_covers)
  a_count_covers : Addr
  d_count_covers : FuncData
  f_count_covers : Fun K "count_covers" "count_covers" s_count_covers a_count_covers d_count_covers
  g_count_covers : mg "count_covers" = some (.ref a_count_covers)
  a_block_cover : Addr
  d_block_cover : FuncData
  f_block_cover : Fun K "block_cover" "block_cover" s_block_cover a_block_cover d_block_cover
  g_block_cover : mg "block_cover" = some (.ref a_block_cover)
  a_cover_in : Addr
  d_cover_in : FuncData
  f_cover_in : Fun K "cover_in" "cover_in" s_cover_in a_cover_in d_cover_in
  g_cover_in : mg "cover_in" = some (.ref a_cover_in)
  a_cover_at : Addr
  d_cover_at : FuncData
  f_cover_at : Fun K "cover_at" "cover_at" s_cover_at a_cover_at d_cover_at
  g_cover_at : mg "cover_at" = some (.ref a_cover_at)
  a_clicks_in : Addr
  d_clicks_in : FuncData
  f_clicks_in : Fun K "clicks_in" "clicks_in" s_clicks_in a_clicks_in d_clicks_in
  g_clicks_in : mg "clicks_in" = some (.ref a_clicks_in)
  a_is_token : Addr
  d_is_token : FuncData
  f_is_token : Fun K "is_token" "is_token" s_is_token a_is_token d_is_token
  g_is_token : mg "is_token" = some (.ref a_is_token)
  a_is_best_cover : Addr
  d_is_best_cover : FuncData
  f_is_best_cover : Fun K "is_best_cover" "is_best_cover" s_is_best_cover a_is_best_cover d_is_best_cover
  g_is_best_cover : mg "is_best_cover" = some (.ref a_is_best_cover)
  a_clicks_of_cover : Addr
  d_clicks_of_cover : FuncData
  f_clicks_of_cover : Fun K "clicks_of_cover" "clicks_of_cover" s_clicks_of_cover a_clicks_of_cover d_clicks_of_cover
  g_clicks_of_cover : mg "clicks_of_cover" = some (.ref a_clicks_of_cover)
  a_is_cheapest : Addr
  d_is_cheapest : FuncData
  f_is_cheapest : Fun K "is_cheapest" "is_cheapest" s_is_cheapest a_is_cheapest d_is_cheapest
  g_is_cheapest : mg "is_cheapest" = some (.ref a_is_cheapest)
  a_makers_in : Addr
  d_makers_in : FuncData
  f_makers_in : Fun K "makers_in" "makers_in" s_makers_in a_makers_in d_makers_in
  g_makers_in : mg "makers_in" = some (.ref a_makers_in)
  a_makers : Addr
  d_makers : FuncData
  f_makers : Fun K "makers" "makers" s_makers a_makers d_makers
  g_makers : mg "makers" = some (.ref a_makers)
  a_idle_clicks : Addr
  d_idle_clicks : FuncData
  f_idle_clicks : Fun K "idle_clicks" "idle_clicks" s_idle_clicks a_idle_clicks d_idle_clicks
  g_idle_clicks : mg "idle_clicks" = some (.ref a_idle_clicks)
  a_cheapest_in : Addr
  d_cheapest_in : FuncData
  f_cheapest_in : Fun K "cheapest_in" "cheapest_in" s_cheapest_in a_cheapest_in d_cheapest_in
  g_cheapest_in : mg "cheapest_in" = some (.ref a_cheapest_in)
  a_cheapest_clicks : Addr
  d_cheapest_clicks : FuncData
  f_cheapest_clicks : Fun K "cheapest_clicks" "cheapest_clicks" s_cheapest_clicks a_cheapest_clicks d_cheapest_clicks
  g_cheapest_clicks : mg "cheapest_clicks" = some (.ref a_cheapest_clicks)
  a__law_source : Addr
  d__law_source : FuncData
  f__law_source : Fun K "_law_source" "_law_source" s__law_source a__law_source d__law_source
  g__law_source : mg "_law_source" = some (.ref a__law_source)
  a__law_draw : Addr
  d__law_draw : FuncData
  f__law_draw : Fun K "_law_draw" "_law_draw" s__law_draw a__law_draw d__law_draw
  g__law_draw : mg "_law_draw" = some (.ref a__law_draw)
  a__law_some : Addr
  d__law_some : FuncData
  f__law_some : Fun K "_law_some" "_law_some" s__law_some a__law_some d__law_some
  g__law_some : mg "_law_some" = some (.ref a__law_some)
  a__law_clicks : Addr
  d__law_clicks : FuncData
  f__law_clicks : Fun K "_law_clicks" "_law_clicks" s__law_clicks a__law_clicks d__law_clicks
  g__law_clicks : mg "_law_clicks" = some (.ref a__law_clicks)
  a__law_done : Addr
  d__law_done : FuncData
  f__law_done : Fun K "_law_done" "_law_done" s__law_done a__law_done d__law_done
  g__law_done : mg "_law_done" = some (.ref a__law_done)
  a__law_borders : Addr
  d__law_borders : FuncData
  f__law_borders : Fun K "_law_borders" "_law_borders" s__law_borders a__law_borders d__law_borders
  g__law_borders : mg "_law_borders" = some (.ref a__law_borders)
  a__law_covers : Addr
  d__law_covers : FuncData
  f__law_covers : Fun K "_law_covers" "_law_covers" s__law_covers a__law_covers d__law_covers
  g__law_covers : mg "_law_covers" = some (.ref a__law_covers)
  a__law_number : Addr
  d__law_number : FuncData
  f__law_number : Fun K "_law_number" "_law_number" s__law_number a__law_number d__law_number
  g__law_number : mg "_law_number" = some (.ref a__law_number)
  a__law_marks : Addr
  d__law_marks : FuncData
  f__law_marks : Fun K "_law_marks" "_law_marks" s__law_marks a__law_marks d__law_marks
  g__law_marks : mg "_law_marks" = some (.ref a__law_marks)
  a__law_cover_right : Addr
  d__law_cover_right : FuncData
  f__law_cover_right : Fun K "_law_cover_right" "_law_cover_right" s__law_cover_right a__law_cover_right d__law_cover_right
  g__law_cover_right : mg "_law_cover_right" = some (.ref a__law_cover_right)
  a__law_makers_right : Addr
  d__law_makers_right : FuncData
  f__law_makers_right : Fun K "_law_makers_right" "_law_makers_right" s__law_makers_right a__law_makers_right d__law_makers_right
  g__law_makers_right : mg "_law_makers_right" = some (.ref a__law_makers_right)
  a_law : Addr
  d_law : FuncData
  f_law : Fun K "law" "law" s_law a_law d_law
  g_law : mg "law" = some (.ref a_law)
  fI : Addr
  cI : Addr
  cdI : Addr
  dD : Addr
  dI : FuncData
  iT : InitT PR K mg s_init "WindowError.__init__" fI cI cdI dD dI
  c_WindowError : Addr
  e_WindowError : ErrC K fI dD c_WindowError
  g_WindowError : mg "WindowError" = some (.ref c_WindowError)
  c_InvalidNumber : Addr
  e_InvalidNumber : ErrC K fI dD c_InvalidNumber
  g_InvalidNumber : mg "InvalidNumber" = some (.ref c_InvalidNumber)
  c_InvalidRows : Addr
  e_InvalidRows : ErrC K fI dD c_InvalidRows
  g_InvalidRows : mg "InvalidRows" = some (.ref c_InvalidRows)
  c_InvalidPosition : Addr
  e_InvalidPosition : ErrC K fI dD c_InvalidPosition
  g_InvalidPosition : mg "InvalidPosition" = some (.ref c_InvalidPosition)
  c_InvalidMarks : Addr
  e_InvalidMarks : ErrC K fI dD c_InvalidMarks
  g_InvalidMarks : mg "InvalidMarks" = some (.ref c_InvalidMarks)
  c_InvalidValue : Addr
  e_InvalidValue : ErrC K fI dD c_InvalidValue
  g_InvalidValue : mg "InvalidValue" = some (.ref c_InvalidValue)
  c_InvalidDeed : Addr
  e_InvalidDeed : ErrC K fI dD c_InvalidDeed
  g_InvalidDeed : mg "InvalidDeed" = some (.ref c_InvalidDeed)
  k_CLICK : Tok
  g_CLICK : mg "CLICK" = some (.str "click" k_CLICK)
  k_RANGE : Tok
  g_RANGE : mg "RANGE" = some (.str "range" k_RANGE)
  z_len : mg "len" = none
  z_set : mg "set" = none
  z_list : mg "list" = none
  z_all : mg "all" = none
  z_zip : mg "zip" = none
  z_enumerate : mg "enumerate" = none
  z_sorted : mg "sorted" = none
  z_min : mg "min" = none
  z_max : mg "max" = none
  z_range : mg "range" = none
  z_sum : mg "sum" = none
  z_int : mg "int" = none
  z_dict : mg "dict" = none
  z_repr : mg "repr" = none
theorem ok_init {w : World} {K : PySem.W.Frag} {mg : Str → Option Value} {base : Heap} (T : Txt K mg) : FnOk PR w K mg base CX0 1 T.fI T.dI ["self", "value"] (spErr K T.fI T.dD) := ok_err T.iT (NdefX.nscope_by (by decide +kernel)) rfl rfl rfl (fun env => rfl)
theorem b_init {K : PySem.W.Frag} {mg : Str → Option Value} (T : Txt K mg) : Binds K T.dI ["self", "value"] [] := by
  obtain ⟨oc, od, kV, doc, pm, an, ct, osl, e, lk⟩ := T.iT.ex
  rw [e]
  exact .all fun us hl => match us, hl with | [_, _], _ => rfl
theorem b_check_there {K : PySem.W.Frag} {mg : Str → Option Value} (T : Txt K mg) : Binds K T.d_check_there ["there"] [] := T.f_check_there.binds (ps := ["there"]) fun _ _ _ _ _ _ us hl => match us, hl with | [_], _ => rfl
theorem b_are_marks {K : PySem.W.Frag} {mg : Str → Option Value} (T : Txt K mg) : Binds K T.d_are_marks ["marks"] [] := T.f_are_marks.binds (ps := ["marks"]) fun _ _ _ _ _ _ us hl => match us, hl with | [_], _ => rfl
theorem b_check_marks_there {K : PySem.W.Frag} {mg : Str → Option Value} (T : Txt K mg) : Binds K T.d_check_marks_there ["there", "marks"] [] := T.f_check_marks_there.binds (ps := ["there", "marks"]) fun _ _ _ _ _ _ us hl => match us, hl with | [_, _], _ => rfl
theorem b_check_clicks {K : PySem.W.Frag} {mg : Str → Option Value} (T : Txt K mg) : Binds K T.d_check_clicks ["there", "clicks"] [] := T.f_check_clicks.binds (ps := ["there", "clicks"]) fun _ _ _ _ _ _ us hl => match us, hl with | [_, _], _ => rfl
theorem b_places_of {K : PySem.W.Frag} {mg : Str → Option Value} (T : Txt K mg) : Binds K T.d_places_of ["there"] [] := T.f_places_of.binds (ps := ["there"]) fun _ _ _ _ _ _ us hl => match us, hl with | [_], _ => rfl
theorem b_marked_in {K : PySem.W.Frag} {mg : Str → Option Value} (T : Txt K mg) : Binds K T.d_marked_in ["there", "marks", "anchor", "clicks"] [] := T.f_marked_in.binds (ps := ["there", "marks", "anchor", "clicks"]) fun _ _ _ _ _ _ us hl => match us, hl with | [_, _, _, _], _ => rfl
theorem b_borders_in {K : PySem.W.Frag} {mg : Str → Option Value} (T : Txt K mg) : Binds K T.d_borders_in ["there", "marks"] [] := T.f_borders_in.binds (ps := ["there", "marks"]) fun _ _ _ _ _ _ us hl => match us, hl with | [_, _], _ => rfl
theorem b_blocks_of {K : PySem.W.Frag} {mg : Str → Option Value} (T : Txt K mg) : Binds K T.d_blocks_of ["places"] [] := T.f_blocks_of.binds (ps := ["places"]) fun _ _ _ _ _ _ us hl => match us, hl with | [_], _ => rfl
theorem b_cost_in {K : PySem.W.Frag} {mg : Str → Option Value} (T : Txt K mg) : Binds K T.d_cost_in ["there", "marks"] [] := T.f_cost_in.binds (ps := ["there", "marks"]) fun _ _ _ _ _ _ us hl => match us, hl with | [_, _], _ => rfl
theorem b_check_case {K : PySem.W.Frag} {mg : Str → Option Value} (T : Txt K mg) : Binds K T.d_check_case ["there", "marks"] [] := T.f_check_case.binds (ps := ["there", "marks"]) fun _ _ _ _ _ _ us hl => match us, hl with | [_, _], _ => rfl
theorem b_numbers_of_covers {K : PySem.W.Frag} {mg : Str → Option Value} (T : Txt K mg) : Binds K T.d_numbers_of_covers ["blocks"] [] := T.f_numbers_of_covers.binds (ps := ["blocks"]) fun _ _ _ _ _ _ us hl => match us, hl with | [_], _ => rfl
theorem b_count_covers {K : PySem.W.Frag} {mg : Str → Option Value} (T : Txt K mg) : Binds K T.d_count_covers ["there", "marks"] [] := T.f_count_covers.binds (ps := ["there", "marks"]) fun _ _ _ _ _ _ us hl => match us, hl with | [_, _], _ => rfl
theorem b_block_cover {K : PySem.W.Frag} {mg : Str → Option Value} (T : Txt K mg) : Binds K T.d_block_cover ["block", "choice"] [] := T.f_block_cover.binds (ps := ["block", "choice"]) fun _ _ _ _ _ _ us hl => match us, hl with | [_, _], _ => rfl
theorem b_cover_in {K : PySem.W.Frag} {mg : Str → Option Value} (T : Txt K mg) : Binds K T.d_cover_in ["there", "marks", "index"] [] := T.f_cover_in.binds (ps := ["there", "marks", "index"]) fun _ _ _ _ _ _ us hl => match us, hl with | [_, _, _], _ => rfl
theorem b_cover_at {K : PySem.W.Frag} {mg : Str → Option Value} (T : Txt K mg) : Binds K T.d_cover_at ["there", "marks", "index"] [] := T.f_cover_at.binds (ps := ["there", "marks", "index"]) fun _ _ _ _ _ _ us hl => match us, hl with | [_, _, _], _ => rfl
theorem b_clicks_in {K : PySem.W.Frag} {mg : Str → Option Value} (T : Txt K mg) : Binds K T.d_clicks_in ["cover"] [] := T.f_clicks_in.binds (ps := ["cover"]) fun _ _ _ _ _ _ us hl => match us, hl with | [_], _ => rfl
theorem b_is_token {K : PySem.W.Frag} {mg : Str → Option Value} (T : Txt K mg) : Binds K T.d_is_token ["token"] [] := T.f_is_token.binds (ps := ["token"]) fun _ _ _ _ _ _ us hl => match us, hl with | [_], _ => rfl
theorem b_is_best_cover {K : PySem.W.Frag} {mg : Str → Option Value} (T : Txt K mg) : Binds K T.d_is_best_cover ["there", "marks", "cover"] [] := T.f_is_best_cover.binds (ps := ["there", "marks", "cover"]) fun _ _ _ _ _ _ us hl => match us, hl with | [_, _, _], _ => rfl
theorem b_clicks_of_cover {K : PySem.W.Frag} {mg : Str → Option Value} (T : Txt K mg) : Binds K T.d_clicks_of_cover ["there", "marks", "cover"] [] := T.f_clicks_of_cover.binds (ps := ["there", "marks", "cover"]) fun _ _ _ _ _ _ us hl => match us, hl with | [_, _, _], _ => rfl
theorem b_is_cheapest {K : PySem.W.Frag} {mg : Str → Option Value} (T : Txt K mg) : Binds K T.d_is_cheapest ["there", "marks", "clicks"] [] := T.f_is_cheapest.binds (ps := ["there", "marks", "clicks"]) fun _ _ _ _ _ _ us hl => match us, hl with | [_, _, _], _ => rfl
theorem b_makers_in {K : PySem.W.Frag} {mg : Str → Option Value} (T : Txt K mg) : Binds K T.d_makers_in ["there", "clicks"] [] := T.f_makers_in.binds (ps := ["there", "clicks"]) fun _ _ _ _ _ _ us hl => match us, hl with | [_, _], _ => rfl
theorem b_makers {K : PySem.W.Frag} {mg : Str → Option Value} (T : Txt K mg) : Binds K T.d_makers ["there", "clicks"] [] := T.f_makers.binds (ps := ["there", "clicks"]) fun _ _ _ _ _ _ us hl => match us, hl with | [_, _], _ => rfl
theorem b_idle_clicks {K : PySem.W.Frag} {mg : Str → Option Value} (T : Txt K mg) : Binds K T.d_idle_clicks ["there", "clicks"] [] := T.f_idle_clicks.binds (ps := ["there", "clicks"]) fun _ _ _ _ _ _ us hl => match us, hl with | [_, _], _ => rfl
theorem b_cheapest_in {K : PySem.W.Frag} {mg : Str → Option Value} (T : Txt K mg) : Binds K T.d_cheapest_in ["there", "marks"] [] := T.f_cheapest_in.binds (ps := ["there", "marks"]) fun _ _ _ _ _ _ us hl => match us, hl with | [_, _], _ => rfl
theorem b_cheapest_clicks {K : PySem.W.Frag} {mg : Str → Option Value} (T : Txt K mg) : Binds K T.d_cheapest_clicks ["there", "marks"] [] := T.f_cheapest_clicks.binds (ps := ["there", "marks"]) fun _ _ _ _ _ _ us hl => match us, hl with | [_, _], _ => rfl
theorem b__law_source {K : PySem.W.Frag} {mg : Str → Option Value} (T : Txt K mg) : Binds K T.d__law_source ["_law_script", "_law_index"] [] := T.f__law_source.binds (ps := ["_law_script", "_law_index"]) fun _ _ _ _ _ _ us hl => match us, hl with | [_, _], _ => rfl
theorem b__law_draw {K : PySem.W.Frag} {mg : Str → Option Value} (T : Txt K mg) : Binds K T.d__law_draw ["_law_source_here", "_law_bound"] [] := T.f__law_draw.binds (ps := ["_law_source_here", "_law_bound"]) fun _ _ _ _ _ _ us hl => match us, hl with | [_, _], _ => rfl
theorem b__law_some {K : PySem.W.Frag} {mg : Str → Option Value} (T : Txt K mg) : Binds K T.d__law_some ["_law_source_here", "_law_things", "_law_size"] [] := T.f__law_some.binds (ps := ["_law_source_here", "_law_things", "_law_size"]) fun _ _ _ _ _ _ us hl => match us, hl with | [_, _, _], _ => rfl
theorem b__law_clicks {K : PySem.W.Frag} {mg : Str → Option Value} (T : Txt K mg) : Binds K T.d__law_clicks ["_law_source_here", "_law_size", "_law_many"] [] := T.f__law_clicks.binds (ps := ["_law_source_here", "_law_size", "_law_many"]) fun _ _ _ _ _ _ us hl => match us, hl with | [_, _, _], _ => rfl
theorem b__law_done {K : PySem.W.Frag} {mg : Str → Option Value} (T : Txt K mg) : Binds K T.d__law_done ["_law_there", "_law_marks_here", "_law_anchor", "_law_clicks_here"] [] := T.f__law_done.binds (ps := ["_law_there", "_law_marks_here", "_law_anchor", "_law_clicks_here"]) fun _ _ _ _ _ _ us hl => match us, hl with | [_, _, _, _], _ => rfl
theorem b__law_borders {K : PySem.W.Frag} {mg : Str → Option Value} (T : Txt K mg) : Binds K T.d__law_borders ["_law_there", "_law_marks_here"] [] := T.f__law_borders.binds (ps := ["_law_there", "_law_marks_here"]) fun _ _ _ _ _ _ us hl => match us, hl with | [_, _], _ => rfl
theorem b__law_covers {K : PySem.W.Frag} {mg : Str → Option Value} (T : Txt K mg) : Binds K T.d__law_covers ["_law_found"] [] := T.f__law_covers.binds (ps := ["_law_found"]) fun _ _ _ _ _ _ us hl => match us, hl with | [_], _ => rfl
theorem b__law_number {K : PySem.W.Frag} {mg : Str → Option Value} (T : Txt K mg) : Binds K T.d__law_number ["_law_found"] [] := T.f__law_number.binds (ps := ["_law_found"]) fun _ _ _ _ _ _ us hl => match us, hl with | [_], _ => rfl
theorem b__law_marks {K : PySem.W.Frag} {mg : Str → Option Value} (T : Txt K mg) : Binds K T.d__law_marks ["_law_source_here", "_law_there"] [] := T.f__law_marks.binds (ps := ["_law_source_here", "_law_there"]) fun _ _ _ _ _ _ us hl => match us, hl with | [_, _], _ => rfl
theorem b__law_cover_right {K : PySem.W.Frag} {mg : Str → Option Value} (T : Txt K mg) : Binds K T.d__law_cover_right ["_law_source_here", "_law_there", "_law_marks_here", "_law_index", "_law_cover"] [] := T.f__law_cover_right.binds (ps := ["_law_source_here", "_law_there", "_law_marks_here", "_law_index", "_law_cover"]) fun _ _ _ _ _ _ us hl => match us, hl with | [_, _, _, _, _], _ => rfl
theorem b__law_makers_right {K : PySem.W.Frag} {mg : Str → Option Value} (T : Txt K mg) : Binds K T.d__law_makers_right ["_law_there", "_law_clicks_here"] [] := T.f__law_makers_right.binds (ps := ["_law_there", "_law_clicks_here"]) fun _ _ _ _ _ _ us hl => match us, hl with | [_, _], _ => rfl
theorem b_law {K : PySem.W.Frag} {mg : Str → Option Value} (T : Txt K mg) : Binds K T.d_law ["_law_script"] [] := T.f_law.binds (ps := ["_law_script"]) fun _ _ _ _ _ _ us hl => match us, hl with | [_], _ => rfl
theorem kb_clicks_of_cover_0_cover_marks_there {K : PySem.W.Frag} {mg : Str → Option Value} (T : Txt K mg) : KBinds K T.d_clicks_of_cover ["there", "marks", "cover"] ["cover", "marks", "there"] (kg 0 3 [2, 1, 0]) (kg 0 3 [2, 1, 0]) := kbinds 0 3 [2, 1, 0] T.f_clicks_of_cover (by decide) fun _ _ _ _ _ _ us ws h1 h2 => match us, h1, ws, h2 with | [], _, [_, _, _], _ => rfl
theorem kb_is_cheapest_0_clicks_there_marks {K : PySem.W.Frag} {mg : Str → Option Value} (T : Txt K mg) : KBinds K T.d_is_cheapest ["there", "marks", "clicks"] ["clicks", "there", "marks"] (kg 0 3 [1, 2, 0]) (kg 0 3 [1, 2, 0]) := kbinds 0 3 [1, 2, 0] T.f_is_cheapest (by decide) fun _ _ _ _ _ _ us ws h1 h2 => match us, h1, ws, h2 with | [], _, [_, _, _], _ => rfl
theorem kb_cover_at_0_index_marks_there {K : PySem.W.Frag} {mg : Str → Option Value} (T : Txt K mg) : KBinds K T.d_cover_at ["there", "marks", "index"] ["index", "marks", "there"] (kg 0 3 [2, 1, 0]) (kg 0 3 [2, 1, 0]) := kbinds 0 3 [2, 1, 0] T.f_cover_at (by decide) fun _ _ _ _ _ _ us ws h1 h2 => match us, h1, ws, h2 with | [], _, [_, _, _], _ => rfl
theorem kb_makers_0_clicks_there {K : PySem.W.Frag} {mg : Str → Option Value} (T : Txt K mg) : KBinds K T.d_makers ["there", "clicks"] ["clicks", "there"] (kg 0 2 [1, 0]) (kg 0 2 [1, 0]) := kbinds 0 2 [1, 0] T.f_makers (by decide) fun _ _ _ _ _ _ us ws h1 h2 => match us, h1, ws, h2 with | [], _, [_, _], _ => rfl
theorem kb_idle_clicks_0_clicks_there {K : PySem.W.Frag} {mg : Str → Option Value} (T : Txt K mg) : KBinds K T.d_idle_clicks ["there", "clicks"] ["clicks", "there"] (kg 0 2 [1, 0]) (kg 0 2 [1, 0]) := kbinds 0 2 [1, 0] T.f_idle_clicks (by decide) fun _ _ _ _ _ _ us ws h1 h2 => match us, h1, ws, h2 with | [], _, [_, _], _ => rfl
theorem kb_count_covers_0_marks_there {K : PySem.W.Frag} {mg : Str → Option Value} (T : Txt K mg) : KBinds K T.d_count_covers ["there", "marks"] ["marks", "there"] (kg 0 2 [1, 0]) (kg 0 2 [1, 0]) := kbinds 0 2 [1, 0] T.f_count_covers (by decide) fun _ _ _ _ _ _ us ws h1 h2 => match us, h1, ws, h2 with | [], _, [_, _], _ => rfl
end K31
set_option Elab.async false
set_option pp.maxSteps 1200
set_option linter.all false
set_option maxRecDepth 100000
set_option maxHeartbeats 4000000
namespace K31
open PySem L2 My
theorem at0 {α : Type} {a : α} {l : List α} : atI (a :: l) 0 = some a := atI_nat (j := 0) rfl
theorem at1 {α : Type} {a b : α} {l : List α} : atI (a :: b :: l) 1 = some b := atI_nat (j := 1) rfl
theorem at2 {α : Type} {a b c : α} {l : List α} : atI (a :: b :: c :: l) 2 = some c := atI_nat (j := 2) rfl
theorem mapI_get {ts : List Int} {i : Nat} {x : V} (h : (ts.map V.int)[i]? = some x) : ∃ t, ts[i]? = some t ∧ x = V.int t := by
  rw [List.getElem?_map] at h
  cases e : ts[i]? with
  | none =>
    rw [e] at h
    cases h
  | some t =>
    rw [e] at h
    exact ⟨t, rfl, (Option.some.inj h).symm⟩
/-! ### clicks and what they do -/
abbrev Cl := Str × Int
def IsCl (K : PySem.W.Frag) (H : Hp) (v : V) (c : Cl) : Prop := ∃ q, v = .ref q ∧ SqT K H q [.str c.1, .int c.2]
def Cls (K : PySem.W.Frag) (H : Hp) (vs : List V) (cs : List Cl) : Prop := vs.length = cs.length ∧ ∀ (i : Nat) v c, vs[i]? = some v → cs[i]? = some c → IsCl K H v c
theorem Cls.ex {K : PySem.W.Frag} {H H' : Hp} {vs : List V} {cs : List Cl} (e : Ex H H') (h : Cls K H vs cs) : Cls K H' vs cs := ⟨h.1, fun i v c h1 h2 => by
  obtain ⟨q, e1, e2⟩ := h.2 i v c h1 h2
  exact ⟨q, e1, Evl.ex_t e e2⟩⟩
theorem Cls.get {K : PySem.W.Frag} {H : Hp} {vs : List V} {cs : List Cl} (h : Cls K H vs cs) {i : Nat} {v : V} (hi : vs[i]? = some v) : ∃ c q, cs[i]? = some c ∧ v = .ref q ∧ SqT K H q [.str c.1, .int c.2] := by
  have hlt : i < vs.length := (List.getElem?_eq_some_iff.mp hi).1
  have hc : cs[i]? = some (cs[i]'(by rw [← h.1]; exact hlt)) := List.getElem?_eq_getElem _
  obtain ⟨q, e1, e2⟩ := h.2 i v _ hi hc
  exact ⟨_, q, hc, e1, e2⟩
def ClOk (n : Nat) (cs : List Cl) : Prop := ∀ c ∈ cs, (c.1 = "click" ∨ c.1 = "range") ∧ 0 ≤ c.2 ∧ c.2 < n
def anV : Option Int → V
  | none => .non
  | some n => .int n
abbrev State := (Int → Bool) × Option Int
def rowAt (there : List Int) (p : Int) : Int := there.getD p.toNat 0
/-- the rows between two places, both within -/
def span (there : List Int) (a b : Nat) : List Int := (there.drop (min a b)).take (max a b + 1 - min a b)
def step (there : List Int) (st : State) (c : Cl) : State :=
  match (if c.1 = "range" then st.2 else none) with
  | some an => if an ∈ there then (fun r => if r ∈ span there (there.idxOf an) c.2.toNat then st.1 an else st.1 r, st.2) else (fun r => if r = rowAt there c.2 then !st.1 r else st.1 r, some (rowAt there c.2))
  | none => (fun r => if r = rowAt there c.2 then !st.1 r else st.1 r, some (rowAt there c.2))
def done (there marks : List Int) (an : Option Int) (cs : List Cl) : State := cs.foldl (step there) (fun r => decide (r ∈ marks), an)
def sp_check_there (K : PySem.W.Frag) : Sp := fun vs H Q _ => ∃ (a : Addr) (ns : List Int), vs = [.ref a] ∧ SqL K H a (ns.map V.int) ∧ ns.Nodup ∧ ns.length ≤ 1000 ∧ Q .non H
def sp_are_marks (K : PySem.W.Frag) : Sp := fun vs H Q _ => ∃ (a : Addr) (ms : List Int), vs = [.ref a] ∧ SqL K H a (ms.map V.int) ∧ ms.Pairwise (· < ·) ∧ ms.length ≤ 1000 ∧ Evl.RetV (.bl true) H Q
def sp_check_clicks (K : PySem.W.Frag) : Sp := fun vs H Q _ => ∃ (a b : Addr) (ns : List Int) (xs : List V) (cs : List Cl), vs = [.ref a, .ref b] ∧ SqL K H a (ns.map V.int) ∧ SqL K H b xs ∧ Cls K H xs cs ∧ ClOk ns.length cs ∧ Evl.RetV .non H Q
def sp_places_of (K : PySem.W.Frag) : Sp := fun vs H Q _ => ∃ (a : Addr) (ns : List Int), vs = [.ref a] ∧ SqL K H a (ns.map V.int) ∧ ns.Nodup ∧ ns.length ≤ 1000 ∧ ∀ p H', H p = none → Ex H H' → H' p = some (.dK (kvsOf ns fun n => .int (ns.idxOf n : Nat))) → Q (.ref p) H'
section
variable {w : World} {K : PySem.W.Frag} {mg : Str → Option Value} {base : Heap}
theorem nef {a b : V} (h : a = b) : (!decide (a = b)) = false := by
  rw [decide_eq_true h]
  rfl
theorem ok_check_there (T : Txt K mg) : FnOk PR w K mg base (L2.CX PR w) 3 T.a_check_there T.d_check_there ["there"] (sp_check_there K) := by
  refine T.f_check_there.okX sc_check_there (fun vs H Q E h => ?_) (fun cdv A outer s H vs Q E hr h => ?_)
  · obtain ⟨a, ns, rfl, _⟩ := h
    rfl
  · obtain ⟨a, ns, rfl, ha, nd, hl, k⟩ := h
    refine ⟨_, (pss_one (ps_if (pt_cmpR op_ne (RZ.pe_lenSetI (by rfl) T.z_len (by rfl) T.z_set (pv 0)) (pe_callB call_len_seq (by rfl) T.z_len PySem.boot_len (pa_cons (pv 0) pa_nil)) (nomark _)) (pss_one (ps_raise rfl (takes_of rfl rfl rfl rfl) (pmk_err (ok_init T) (b_init T) T.e_InvalidRows (hr.mono (by decide)) (by rfl) T.g_InvalidRows (pa_cons (pe_callTy call_listG (by rfl) T.z_list (by decide +kernel) (pa_cons (pv 0) pa_nil)) pa_nil)))) pss_nil)), ?_⟩
    refine ⟨_, rfl, a, ns, rfl, ha, nd, by omega, _, rfl, _, _, rfl, .inl ha, rfl, _, rfl, ifF (nef (by rw [List.length_map])) ?_⟩
    exact k
theorem ok_are_marks (T : Txt K mg) : FnOk PR w K mg base CX0 1 T.a_are_marks T.d_are_marks ["marks"] (sp_are_marks K) := by
  refine T.f_are_marks.ok sc_are_marks (fun vs H Q E h => ?_) (fun cdv A outer s H vs Q E hr h => ?_)
  · obtain ⟨a, ms, rfl, _⟩ := h
    rfl
  · obtain ⟨a, ms, rfl, ha, pw, hl, k⟩ := h
    refine ⟨_, (pss_one (ps_ret (pe_callB (cr_all rfl) (by rfl) T.z_all (by decide +kernel) (pa_cons (pe_lc (own := [("one", 1), ("other", 2)]) (g := (gTup K 2 (gCons (gName 1) (gCons (gName 2) gNil)))) (by rfl) sc_are_marks.nd (pi_zip (by rfl) T.z_zip (pa_cons (pv 0) (pa_cons (pe_slice sl_listG (pv 0) (po_some pe_int) po_none) pa_nil))) (blkOk_by (own := [("one", 1), ("other", 2)]) (N := ["marks", "one", "other"]) (sc := (defScope s_are_marks)) (by decide +kernel)) (fun _ _ _ _ _ => (pg_tup rfl (pgs_cons (pg_name (i := 1) sc_are_marks.nd rfl (by first | exact Or.inl rfl | exact Or.inr rfl)) (pgs_cons (pg_name (i := 2) sc_are_marks.nd rfl (by first | exact Or.inl rfl | exact Or.inr rfl)) pgs_nil)))) (fun _ _ _ _ _ => pts_nil) (fun _ _ _ _ _ => (pe_cmpR op_lt (pv 1) (pv 2) (nomark _)))) pa_nil)))), ?_⟩
    have ec : cutV (ms.map V.int) (some 1) none = (ms.drop 1).map V.int := by
      rw [List.map_drop]
      exact cut_from _ 1
    refine ⟨_, rfl, _, rfl, _, rfl, _, _, rfl, ha, fun p1 H1 n1 e1 h1 => ?_⟩
    rw [ec] at h1
    have ha1 := Evl.ex_l e1 ha
    refine ⟨a, p1, _, _, rfl, ha1, sqI h1, fun D hD => lc_it (walk_zip (K := K) (a := a) (b := p1) (xs := ms.map V.int) (ys := (ms.drop 1).map V.int) rfl) (fun i H' => Ex H1 H' ∧ H' D = some (.lst ((List.replicate i true).map V.bl))) ⟨Evl.Ex.new hD, upd_same⟩ (fun i H' _ z => ⟨Evl.ex_l z.1 ha1, sqI (z.1 _ _ h1)⟩) ?_ ?_⟩
    · rintro i v H2 H3 hi ⟨e2, d2⟩ ⟨q, x, y, rfl, nq, rfl, hx, hy⟩
      obtain ⟨t, ht, rfl⟩ := mapI_get hx
      obtain ⟨u, hu, rfl⟩ := mapI_get hy
      rw [List.getElem?_drop] at hu
      have e3 : Ex H2 (upd H2 q (.tup [.int t, .int u])) := Evl.Ex.new nq
      have hp : upd H2 q (.tup [.int t, .int u]) q = some (.tup [.int t, .int u]) := upd_same
      generalize upd H2 q (.tup [.int t, .int u]) = H4 at e3 hp ⊢
      have lt : t < u := by
        obtain ⟨i1, e1⟩ := List.getElem?_eq_some_iff.mp ht
        obtain ⟨i2, e2⟩ := List.getElem?_eq_some_iff.mp hu
        rw [← e1, ← e2]
        exact List.pairwise_iff_getElem.mp pw i (1 + i) i1 i2 (by omega)
      refine ⟨_, _, rfl, sqT hp, rfl, _, _, rfl, _, _, rfl, rfl, rfl, ?_⟩
      refine ⟨_, rfl, _, rfl, _, _, rfl, rfl, _, e3 _ _ d2, ?_, ?_⟩
      · rw [List.length_map, List.length_replicate]
        have : i < (ms.map V.int).length := Nat.lt_of_lt_of_le hi (Nat.min_le_left _ _)
        rw [List.length_map] at this
        exact Nat.lt_of_lt_of_le (show i < 1000 by omega) (by decide)
      · refine ⟨Evl.Ex.mut (e2.trans e3) hD, ?_⟩
        rw [upd_same, List.replicate_succ', List.map_append]
        show some (HO.lst (_ ++ [V.bl (decide (t < u))])) = _
        rw [decide_eq_true lt]
        rfl
    · rintro H2 ⟨e2, d2⟩
      refine ⟨D, _, rfl, sqI d2, ?_⟩
      rw [List.all_replicate]
      have := k _ (e1.trans e2)
      split
      · exact this
      · exact this
theorem ok_check_clicks (T : Txt K mg) : FnOk PR w K mg base (L2.CX PR w) 3 T.a_check_clicks T.d_check_clicks ["there", "clicks"] (sp_check_clicks K) := by
  refine T.f_check_clicks.okX sc_check_clicks (fun vs H Q E h => ?_) (fun cdv A outer s H vs Q E hr h => ?_)
  · obtain ⟨a, b, ns, xs, cs, rfl, _⟩ := h
    rfl
  · obtain ⟨a, b, ns, xs, cs, rfl, ha, hb, hc, ok, k⟩ := h
    refine ⟨_, (pss_cons (ps_for (passes_of rfl) rfl (pi_list (pv 1)) (pg_name (i := 2) sc_check_clicks.nd rfl (by first | exact Or.inl rfl | exact Or.inr rfl)) (pss_one (ps_if (PW.pt (pw_or (pt_cmpR op_ne (pe_callB call_len_seq (by rfl) T.z_len PySem.boot_len (pa_cons (pv 2) pa_nil)) pe_int (nomark _)) (pw_or1 (pt_cmpR op_notIn_seq (pe_ix ix_tup (pv 2) pe_int (fun _ _ => rfl)) (pe_tupG (pa_cons (pe_glob (v := .str "click") rfl T.g_CLICK ⟨_, rfl⟩) (pa_cons (pe_glob (v := .str "range") rfl T.g_RANGE ⟨_, rfl⟩) pa_nil))) (by rfl))))) (pss_one (ps_raise rfl (takes_of rfl rfl rfl rfl) (pmk_err (ok_init T) (b_init T) T.e_InvalidDeed (hr.mono (by decide)) (by rfl) T.g_InvalidDeed (pa_cons (pv 2) pa_nil)))) pss_nil))) (pss_one (ps_for (passes_of rfl) rfl (pi_list (pv 1)) (pg_tup rfl (pgs_cons (pg_name (i := 3) sc_check_clicks.nd rfl (by first | exact Or.inl rfl | exact Or.inr rfl)) (pgs_cons (pg_name (i := 4) sc_check_clicks.nd rfl (by first | exact Or.inl rfl | exact Or.inr rfl)) pgs_nil))) (pss_one (ps_if (pt_not (pt_chain op_le op_lt pe_int (pv 4) (pe_callB call_len_seq (by rfl) T.z_len PySem.boot_len (pa_cons (pv 0) pa_nil)))) (pss_one (ps_raise rfl (takes_of rfl rfl rfl rfl) (pmk_err (ok_init T) (b_init T) T.e_InvalidPosition (hr.mono (by decide)) (by rfl) T.g_InvalidPosition (pa_cons (pv 4) pa_nil)))) pss_nil))))), ?_⟩
    refine ⟨_, rfl, b, rfl, ⟨_, hb⟩, for_list (K := K) (a := b) (xs := xs) (fun i σ H' => ∃ v, σ = [some (.ref a), some (.ref b), v, none, none] ∧ Ex H H') ⟨_, rfl, Evl.Ex.refl _⟩ (fun i σ H' _ ⟨_, _, e⟩ => Evl.ex_l e hb) ?_ ?_⟩
    · rintro i x σ H' hi ⟨v, rfl, e⟩
      obtain ⟨c, q, hci, rfl, hq⟩ := (hc.ex e).get hi
      have cok := ok c (List.mem_of_getElem? hci)
      refine ⟨_, rfl, _, _, rfl, .inr hq, rfl, _, rfl, ifF rfl ?_⟩
      refine ⟨_, rfl, _, _, _, _, rfl, rfl, hq, at0, (by show 2 ≤ sizeLine; decide), fun p1 H1 n1 e1 h1 => ?_⟩
      refine ⟨_, _, rfl, .inr (sqT h1), rfl, rfl, _, rfl, ifF ?_ ?_⟩
      · rcases cok.1 with z | z
        · rw [z]
          decide +kernel
        · rw [z]
          decide +kernel
      · exact ⟨_, rfl, e.trans e1⟩
    · rintro σ H0 ⟨v, rfl, e0⟩
      refine ⟨_, rfl, b, rfl, ⟨_, Evl.ex_l e0 hb⟩, for_list (K := K) (a := b) (xs := xs) (fun i σ H' => ∃ v v3 v4, σ = [some (.ref a), some (.ref b), v, v3, v4] ∧ Ex H H') ⟨_, _, _, rfl, e0⟩ (fun i σ H' _ ⟨_, _, _, _, e⟩ => Evl.ex_l e hb) ?_ ?_⟩
      · rintro i x σ H' hi ⟨v, v3, v4, rfl, e⟩
        obtain ⟨c, q, hci, rfl, hq⟩ := (hc.ex e).get hi
        have cok := ok c (List.mem_of_getElem? hci)
        refine ⟨_, _, rfl, hq, rfl, _, _, rfl, _, _, rfl, rfl, ?_⟩
        refine ⟨_, rfl, _, _, rfl, rfl, _, rfl, ifT (decide_eq_true cok.2.1) ?_⟩
        refine ⟨_, rfl, _, _, rfl, .inl (Evl.ex_l e ha), _, _, rfl, rfl, _, rfl, ?_⟩
        have lt : c.2 < ((ns.map V.int).length : Int) := by
          rw [List.length_map]
          exact cok.2.2
        refine ifF (by rw [decide_eq_true lt]; rfl) ?_
        exact ⟨_, _, _, rfl, e⟩
      · rintro σ H' ⟨v, v3, v4, rfl, e⟩
        exact k _ e
end
end K31
set_option Elab.async false
set_option pp.maxSteps 1200
set_option linter.all false
set_option maxRecDepth 100000
set_option maxHeartbeats 4000000
namespace K31
open PySem L2 My
def sp_marked_in (K : PySem.W.Frag) : Sp := fun vs H Q _ => ∃ (a m b : Addr) (ns ms : List Int) (xs : List V) (cs : List Cl) (an : Option Int), vs = [.ref a, .ref m, anV an, .ref b] ∧ SqL K H a (ns.map V.int) ∧ SqL K H m (ms.map V.int) ∧ SqL K H b xs ∧ ns.Nodup ∧ ns.length ≤ 1000 ∧ ms.Nodup ∧ ms.length ≤ 1000 ∧ Cls K H xs cs ∧ ClOk ns.length cs ∧
  ∀ (p q : Addr) (H' : Hp) (rs : List Int), H p = none → Ex H H' → p ≠ q → H q = none → H' q = some (.tup [.ref p, anV (done ns ms an cs).2]) → H' p = some (.lst (rs.map V.int)) → rs.Pairwise (· < ·) → (∀ r, r ∈ rs ↔ (done ns ms an cs).1 r = true) → (∀ r ∈ rs, r ∈ ms ++ ns) → Q (.ref q) H'
theorem span_take {there : List Int} {a b i : Nat} {x : Int} (h : (span there a b)[i]? = some x) : x ∈ there := by
  have := List.mem_of_getElem? h
  exact List.mem_of_mem_drop (List.mem_of_mem_take this)
section
variable {w : World} {K : PySem.W.Frag} {mg : Str → Option Value} {base : Heap}
theorem ok_places_of (T : Txt K mg) : FnOk PR w K mg base CX0 1 T.a_places_of T.d_places_of ["there"] (sp_places_of K) := by
  refine T.f_places_of.ok sc_places_of (fun vs H Q E h => ?_) (fun cdv A outer s H vs Q E hr h => ?_)
  · obtain ⟨a, ns, rfl, _⟩ := h
    rfl
  · obtain ⟨a, ns, rfl, ha, nd, hl, k⟩ := h
    refine ⟨_, (pss_one (ps_ret (pe_dc (own := [("place", 1), ("row", 2)]) (g := (gTup K 2 (gCons (gName 1) (gCons (gName 2) gNil)))) (by rfl) sc_places_of.nd (pi_enum (by rfl) T.z_enumerate (pa_cons (pv 0) pa_nil)) (blkOk_by (own := [("place", 1), ("row", 2)]) (N := ["there", "place", "row"]) (sc := defScope s_places_of) (by decide +kernel)) (fun _ _ _ _ _ => (pg_tup rfl (pgs_cons (pg_name (i := 1) sc_places_of.nd rfl (by first | exact Or.inl rfl | exact Or.inr rfl)) (pgs_cons (pg_name (i := 2) sc_places_of.nd rfl (by first | exact Or.inl rfl | exact Or.inr rfl)) pgs_nil)))) (fun _ _ _ _ _ => pts_nil) (fun _ _ _ _ _ => (pv 2)) (fun _ _ _ _ _ => (pv 1))))), ?_⟩
    refine ⟨_, rfl, a, _, rfl, ha, fun D hD => dc_it (walk_enum (K := K) (a := a) (xs := ns.map V.int)) (fun i H' => Ex H H' ∧ H' D = some (.dK (kvsOf (ns.take i) fun n => .int (ns.idxOf n : Nat)))) ⟨Evl.Ex.new hD, upd_same⟩ (fun i H' _ z => Evl.ex_l z.1 ha) ?_ ?_⟩
    · rintro i v H2 H3 hi ⟨e2, d2⟩ ⟨q, x, y, rfl, nq, rfl, hx, hy⟩
      obtain ⟨t, ht, rfl⟩ := mapI_get hy
      cases hx
      have e3 : Ex H2 (upd H2 q (.tup [.int (i : Nat), .int t])) := Evl.Ex.new nq
      have hp : upd H2 q (.tup [.int (i : Nat), .int t]) q = some (.tup [.int (i : Nat), .int t]) := upd_same
      generalize upd H2 q (.tup [.int (i : Nat), .int t]) = H4 at e3 hp ⊢
      refine ⟨_, _, rfl, sqT hp, rfl, _, _, rfl, _, _, rfl, rfl, rfl, ?_⟩
      refine ⟨_, rfl, _, rfl, _, Sum.inl t, rfl, e3 _ _ d2, ?_, Evl.Ex.mut (e2.trans e3) hD, ?_⟩
      · rw [kvs_len, List.length_take]
        exact Nat.lt_of_le_of_lt (Nat.min_le_right _ _) (Nat.lt_of_le_of_lt hl (by decide))
      · rw [upd_same, take_snoc ht, ← kvs_snoc _ _ _ (nodup_take nd i ht), idx_of nd ht]
    · rintro H2 ⟨e2, d2⟩
      rw [List.length_map, List.take_length] at d2
      exact k D H2 hD e2 d2
/-- the anchor of a range -/
def rng (there : List Int) (word : Str) (an : Option Int) : Option Int := match an with
  | some n => if word = "range" ∧ n ∈ there then some n else none
  | none => none
theorem rng_some {there : List Int} {word : Str} {an : Option Int} {n : Int} (h : rng there word an = some n) : word = "range" ∧ an = some n ∧ n ∈ there := by
  unfold rng at h
  cases an with
  | none => cases h
  | some m =>
    by_cases c : word = "range" ∧ m ∈ there
    · simp only [if_pos c] at h
      cases h
      exact ⟨c.1, rfl, c.2⟩
    · simp only [if_neg c] at h
      cases h
theorem step_rng {there : List Int} {f : Int → Bool} {an : Option Int} {word : Str} {pos n : Int} (h : rng there word an = some n) :
    step there (f, an) (word, pos) = (fun r => if r ∈ span there (there.idxOf n) pos.toNat then f n else f r, an) := by
  obtain ⟨rfl, rfl, hm⟩ := rng_some h
  show (if n ∈ there then _ else _) = _
  rw [if_pos hm]
theorem step_cl {there : List Int} {f : Int → Bool} {an : Option Int} {word : Str} {pos : Int} (h : rng there word an = none) :
    step there (f, an) (word, pos) = (fun r => if r = rowAt there pos then !f r else f r, some (rowAt there pos)) := by
  unfold rng at h
  unfold step
  cases an with
  | none =>
    have : (if word = "range" then (none : Option Int) else none) = none := by split <;> rfl
    simp only [this]
  | some m =>
    by_cases c : word = "range"
    · by_cases c2 : m ∈ there
      · simp only [if_pos (And.intro c c2)] at h
        cases h
      · simp only [if_pos c, if_neg c2]
    · simp only [if_neg c]
theorem rng_isSome (there : List Int) (word : Str) (an : Option Int) : (rng there word an).isSome = (decide (word = "range") && an.any fun n => decide (n ∈ there)) := by
  unfold rng
  cases an with
  | none => simp
  | some m =>
    by_cases c : word = "range" ∧ m ∈ there
    · simp [if_pos c, c.1, c.2]
    · rw [Bool.eq_iff_iff]
      simp [if_neg c]
      exact fun h1 h2 => c ⟨h1, h2⟩
/-- what stands while clicks are done -/
def MInv (K : PySem.W.Frag) (a m b pd fd : Addr) (ns ms : List Int) (st : State) (H1 : Hp) (σ : L2.St) (H' : Hp) : Prop :=
  ∃ w6 w7 w8 w9 w10 w11 w12 ks, σ = [some (.ref a), some (.ref m), some (anV st.2), some (.ref b), some (.ref pd), some (.ref fd), w6, w7, w8, w9, w10, w11, w12] ∧ Ex H1 H' ∧ H' fd = some (.dK (kvsOf ks tt)) ∧ FdOk st.1 (ms ++ ns) ks
theorem at_row {ns : List Int} {p : Int} (h0 : 0 ≤ p) (h1 : p < ns.length) : atI (ns.map V.int) p = some (.int (rowAt ns p)) := by
  refine at_of (j := p.toNat) (by omega) ?_
  rw [List.getElem?_map, List.getElem?_eq_getElem (by omega)]
  show some (V.int _) = some (V.int (ns.getD p.toNat 0))
  rw [List.getD_eq_getElem?_getD, List.getElem?_eq_getElem (by omega)]
  rfl
theorem row_mem {ns : List Int} {p : Int} (h0 : 0 ≤ p) (h1 : p < ns.length) : rowAt ns p ∈ ns := by
  show ns.getD p.toNat 0 ∈ ns
  rw [List.getD_eq_getElem?_getD, List.getElem?_eq_getElem (show p.toNat < ns.length by omega)]
  exact List.getElem_mem _
theorem big {f : Int → Bool} {ms ns ks : List Int} (h : FdOk f (ms ++ ns) ks) (h1 : ms.length ≤ 1000) (h2 : ns.length ≤ 1000) (g : Int → V) : (kvsOf ks g).length < sizeLine := by
  rw [kvs_len]
  have := h.len
  rw [List.length_append] at this
  exact Nat.lt_of_le_of_lt (show ks.length ≤ 2000 by omega) (by decide)
theorem ok_marked_in (T : Txt K mg) : FnOk PR w K mg base CX0 2 T.a_marked_in T.d_marked_in ["there", "marks", "anchor", "clicks"] (sp_marked_in K) := by
  refine T.f_marked_in.ok sc_marked_in (fun vs H Q E h => ?_) (fun cdv A outer s H vs Q E hr h => ?_)
  · obtain ⟨a, m, b, ns, ms, xs, cs, an, rfl, _⟩ := h
    rfl
  · obtain ⟨a, m, b, ns, ms, xs, cs, an, rfl, ha, hm, hb, nd, hl, nm, hlm, hc, ok, k⟩ := h
    refine ⟨_, (pss_cons (ps_set (i := 4) sc_marked_in.nd rfl (by first | exact Or.inl rfl | exact Or.inr rfl) (pe_call (ok_places_of T) (hr.mono (by decide)) (by rfl) T.g_places_of T.f_places_of.kp (b_places_of T) .nil pass0 (pa_cons (pv 0) pa_nil))) (pss_cons (ps_setDc (i := 5) (own := [("row", 8)]) (g := (gName 8)) (by rfl) sc_marked_in.nd rfl rfl (sw_trueD rfl rfl rfl (by decide +kernel)) (pi_list (pv 1)) (blkOk_by (own := [("row", 8)]) (N := ["there", "marks", "anchor", "clicks", "places", "found", "word", "position", "row", "first", "last", "is_marked", "other"]) (sc := defScope s_marked_in) (by decide +kernel)) (fun _ _ _ _ _ => (pg_name (i := 8) sc_marked_in.nd rfl (by first | exact Or.inl rfl | exact Or.inr rfl))) (fun _ _ _ _ _ => pts_nil) (fun _ _ _ _ _ => (pv 8)) (fun _ _ _ _ _ => pe_bl)) (pss_cons (ps_for PassesOwn.never rfl (pi_list (pv 3)) (pg_tup rfl (pgs_cons (pg_name (i := 6) sc_marked_in.nd rfl (by first | exact Or.inl rfl | exact Or.inr rfl)) (pgs_cons (pg_name (i := 7) sc_marked_in.nd rfl (by first | exact Or.inl rfl | exact Or.inr rfl)) pgs_nil))) (pss_cons (ps_set (i := 8) sc_marked_in.nd rfl (by first | exact Or.inl rfl | exact Or.inr rfl) (pe_ix ix_list (pv 0) (pv 7) (fun _ _ => rfl))) (pss_one (ps_if (pt_cut (PW.pt (pw_and (pt_cmpR op_eq (pv 6) (pe_glob (v := .str "range") rfl T.g_RANGE ⟨_, rfl⟩) (nomark _)) (pw_and1 (pt_cmp (pc_dinN (hu_of hr) (pv 2) (pv 4))))))) (pss_cons (ps_par (by rfl) sc_marked_in.nd rfl rfl (by decide) rfl rfl (i := 9) (j := 10) (pa_cons (pe_callB (call_min2 rfl) (by rfl) T.z_min (by decide +kernel) (pa_cons (pe_dget (hu_of hr) (pv 4) (pv 2) (fun _ _ => rfl)) (pa_cons (pv 7) pa_nil))) (pa_cons (pe_callB (call_max2 rfl) (by rfl) T.z_max (by decide +kernel) (pa_cons (pe_dget (hu_of hr) (pv 4) (pv 2) (fun _ _ => rfl)) (pa_cons (pv 7) pa_nil))) pa_nil)) (by rfl)) (pss_cons (ps_set (i := 11) sc_marked_in.nd rfl (by first | exact Or.inl rfl | exact Or.inr rfl) (pe_cmp (pc_dinN (hu_of hr) (pv 2) (pv 5)))) (pss_one (ps_for PassesOwn.never rfl (pi_list (pe_slice sl_listG (pv 0) (po_some (pv 9)) (po_some (pe_op op_add (pv 10) pe_int)))) (pg_name (i := 12) sc_marked_in.nd rfl (by first | exact Or.inl rfl | exact Or.inr rfl)) (pss_one (ps_if (pt_val (pv 11)) (pss_one (ps_dput (hu_of hr) (pv 5) (pv 12) pe_bl rfl)) (pss_one (ps_expr (pe_dpop2 (pv 5) (pv 12) pe_non ⟨rfl, rfl, rfl, rfl⟩))))))))) (pss_cons (ps_cut (ps_if (pt_cmp (pc_dinN (hu_of hr) (pv 8) (pv 5))) (pss_one (ps_ddel (pv 5) (pv 8))) (pss_one (ps_dput (hu_of hr) (pv 5) (pv 8) pe_bl rfl)))) (pss_one (ps_set (i := 2) sc_marked_in.nd rfl (by first | exact Or.inl rfl | exact Or.inr rfl) (pv 8)))))))) (pss_one (ps_ret (pe_tupG (pa_cons (pe_callB (cr_sortedD rfl) (by rfl) T.z_sorted (by decide +kernel) (pa_cons (pv 5) pa_nil)) (pa_cons (pv 2) pa_nil)))))))), ?_⟩
    -- places = places_of(there)
    refine ⟨_, rfl, a, ns, rfl, ha, nd, hl, fun pd H1 npd e1 hpd => ?_⟩
    -- found = {row: True for row in marks}
    refine ⟨_, rfl, m, rfl, ⟨_, Evl.ex_l e1 hm⟩, fun fd hfd => dc_it (walk_list (K := K) (a := m) (xs := ms.map V.int)) (fun i H' => Ex H1 H' ∧ H' fd = some (.dK (kvsOf (ms.take i) tt))) ⟨Evl.Ex.new hfd, upd_same⟩ (fun i H' _ z => Evl.ex_l (e1.trans z.1) hm) ?_ ?_⟩
    · rintro i v H2 H3 hi ⟨e2, d2⟩ ⟨rfl, hx⟩
      obtain ⟨t, ht, rfl⟩ := mapI_get hx
      refine ⟨rfl, ?_⟩
      refine ⟨_, rfl, _, Sum.inl t, rfl, d2, ?_, Evl.Ex.mut e2 hfd, ?_⟩
      · rw [kvs_len, List.length_take]
        exact Nat.lt_of_le_of_lt (Nat.min_le_right _ _) (Nat.lt_of_le_of_lt hlm (by decide))
      · rw [upd_same, take_snoc ht, ← kvs_snoc _ _ _ (nodup_take nm i ht)]
    · rintro H2 ⟨e2, d2⟩
      rw [List.length_map, List.take_length] at d2
      have npf : pd ≠ fd := ne_of_none hpd hfd
      -- for word, position in clicks:
      refine ⟨_, rfl, b, rfl, ⟨_, Evl.ex_l (e1.trans e2) hb⟩, for_list (K := K) (a := b) (xs := xs) (fun i σ H' => MInv K a m b pd fd ns ms ((cs.take i).foldl (step ns) (fun r => decide (r ∈ ms), an)) H1 σ H') ?_ ?_ ?_ ?_⟩
      · exact ⟨_, _, _, _, _, _, _, ms, rfl, e2, d2, nm, fun r => by simp, fun r hr => List.mem_append_left _ hr⟩
      · rintro i σ H' _ ⟨_, _, _, _, _, _, _, _, _, e, _⟩
        exact Evl.ex_l (e1.trans e) hb
      · rintro i x σ H' hi ⟨w6, w7, w8, w9, w10, w11, w12, ks, rfl, e, d, fok⟩
        obtain ⟨c, q, hci, rfl, hq⟩ := (hc.ex (e1.trans e)).get hi
        have cok := ok c (List.mem_of_getElem? hci)
        rw [foldl_take hci]
        generalize (cs.take i).foldl (step ns) (fun r => decide (r ∈ ms), an) = st at fok ⊢
        obtain ⟨f, an'⟩ := st
        obtain ⟨word, pos⟩ := c
        change FdOk f (ms ++ ns) ks at fok
        refine ⟨_, _, rfl, hq, rfl, _, _, rfl, _, _, rfl, rfl, ?_⟩
        -- row = there[position]
        refine ⟨_, rfl, _, rfl, _, _, _, _, rfl, rfl, Evl.ex_l (e1.trans e) ha, at_row cok.2.1 cok.2.2, ?_⟩
        -- if word == RANGE and anchor in places:
        have hpd' := e _ _ hpd
        have ha' := Evl.ex_l (e1.trans e) ha
        refine ⟨fun b H'' => H'' = H' ∧ b = (rng ns word an').isSome, ?_, ?_⟩
        · refine ⟨_, rfl, rfl, _, rfl, ?_⟩
          rw [rng_isSome]
          refine ifB (fun c => ?_) (fun c => ⟨rfl, ?_⟩)
          · cases an' with
            | none =>
              refine ⟨_, rfl, _, rfl, .inr ⟨_, _, rfl, rfl, .inl hpd', _, rfl, rfl, ?_⟩⟩
              rw [Option.any_none, Bool.and_false]
            | some n =>
              refine ⟨_, rfl, _, rfl, .inl ⟨_, _, rfl, .inl ⟨_, Sum.inl n, .inl hpd', rfl, rfl⟩, _, rfl, rfl, ?_⟩⟩
              rw [valV_kvs, Option.any_some]
              have c' : V.str word = V.str "range" := of_decide_eq_true c
              injection c' with c'
              rw [decide_eq_true c', Bool.true_and]
              by_cases m : n ∈ ns
              · rw [if_pos m, decide_eq_true m]
                rfl
              · rw [if_neg m, decide_eq_false m]
                rfl
          · have c' : ¬ word = "range" := fun z => by
              have := of_decide_eq_false c
              exact this (by rw [z])
            rw [decide_eq_false c', Bool.false_and]
        · rintro bb H'' ⟨rfl, rfl⟩
          cases hrng : rng ns word an' with
          | none =>
            rw [step_cl hrng]
            have rm := row_mem cok.2.1 cok.2.2
            refine iteF ?_
            -- if row in found:
            refine ⟨fun σ' H3 => ∃ ks', σ' = [some (.ref a), some (.ref m), some (anV an'), some (.ref b), some (.ref pd), some (.ref fd), some (.str word), some (.int pos), some (.int (rowAt ns pos)), w9, w10, w11, w12] ∧ Ex H1 H3 ∧ H3 fd = some (.dK (kvsOf ks' tt)) ∧ FdOk (fun r => if r = rowAt ns pos then !f r else f r) (ms ++ ns) ks', ?_, ?_⟩
            · refine ⟨_, rfl, _, rfl, .inl ⟨_, _, rfl, .inl ⟨_, Sum.inl (rowAt ns pos), .inl d, rfl, rfl⟩, _, rfl, ?_⟩⟩
              rw [valV_kvs]
              by_cases mm : rowAt ns pos ∈ ks
              · rw [if_pos mm]
                refine iteT ?_
                refine ⟨_, rfl, _, rfl, _, _, Sum.inl (rowAt ns pos), rfl, d, rfl, by rw [valV_kvs, if_pos mm]; rfl, ?_⟩
                rw [dropK_kvs]
                refine ⟨_, rfl, Evl.Ex.mut e hfd, upd_same, (fok.drop (rowAt ns pos)).congr fun r => ?_⟩
                by_cases z : r = rowAt ns pos
                · rw [if_pos z, if_pos z, z]
                  show false = !f _
                  rw [(fok.is _).mp mm]
                  rfl
                · rw [if_neg z, if_neg z]
              · rw [if_neg mm]
                refine iteF ?_
                refine ⟨_, rfl, _, rfl, _, _, rfl, .inl ⟨_, Sum.inl (rowAt ns pos), d, rfl, big fok hlm hl _, rfl⟩, ?_⟩
                rw [putK_tt]
                refine ⟨_, rfl, Evl.Ex.mut e hfd, upd_same, (fok.put (List.mem_append_right _ rm)).congr fun r => ?_⟩
                by_cases z : r = rowAt ns pos
                · rw [if_pos z, if_pos z, z]
                  show true = !f _
                  cases q : f (rowAt ns pos) with
                  | false => rfl
                  | true => exact absurd ((fok.is _).mpr q) mm
                · rw [if_neg z, if_neg z]
            · rintro σ' H3 ⟨ks', rfl, e3, d3, f3⟩
              exact ⟨_, rfl, _, _, _, _, _, _, _, ks', rfl, e3, d3, f3⟩
          | some n =>
            obtain ⟨rfl, rfl, nm'⟩ := rng_some hrng
            rw [step_rng hrng]
            have ilt : ns.idxOf n < ns.length := List.idxOf_lt_length_of_mem nm'
            have gv : valV (kvsOf ns fun n => V.int (ns.idxOf n : Nat)) (Sum.inl n) = some (.int (ns.idxOf n : Nat)) := by rw [valV_kvs, if_pos nm']
            refine iteT ?_
            -- first, last = ..
            refine ⟨_, rfl, _, rfl, _, _, rfl, .inl ⟨_, Sum.inl n, .inl hpd', rfl, gv.symm⟩, _, rfl, _, _, rfl, ?_⟩
            refine ⟨_, rfl, _, rfl, _, _, rfl, .inl ⟨_, Sum.inl n, .inl hpd', rfl, gv.symm⟩, _, rfl, _, _, rfl, _, _, rfl, ?_⟩
            -- is_marked = anchor in found
            refine ⟨_, rfl, _, rfl, .inl ⟨_, _, rfl, .inl ⟨_, Sum.inl n, .inl d, rfl, rfl⟩, ?_⟩⟩
            have ef : (valV (kvsOf ks tt) (Sum.inl n)).isSome = f n := by
              rw [valV_kvs]
              by_cases z : n ∈ ks
              · rw [if_pos z, (fok.is n).mp z]
                rfl
              · rw [if_neg z]
                cases q : f n with
                | false => rfl
                | true => exact absurd ((fok.is n).mpr q) z
            rw [ef]
            have p0 : 0 ≤ pos := cok.2.1
            have p1 : pos < ns.length := cok.2.2
            have elo : (if pos < (ns.idxOf n : Int) then pos else (ns.idxOf n : Int)) = ((min (ns.idxOf n) pos.toNat : Nat) : Int) := by split <;> omega
            have ehi : (if pos > (ns.idxOf n : Int) then pos else (ns.idxOf n : Int)) = ((max (ns.idxOf n) pos.toNat : Nat) : Int) := by split <;> omega
            -- for other in there[first:last + 1]:
            refine ⟨_, rfl, _, rfl, _, rfl, _, rfl, _, _, rfl, rfl, _, rfl, _, _, rfl, ha', fun p1 H1' n1 e1' h1 => ?_⟩
            have ecut : cutV (ns.map V.int) (some (if pos < (ns.idxOf n : Int) then pos else (ns.idxOf n : Int))) (some ((if pos > (ns.idxOf n : Int) then pos else (ns.idxOf n : Int)) + 1)) = (span ns (ns.idxOf n) pos.toNat).map V.int := by
              rw [elo, ehi]
              refine (cut_mid (n := min (ns.idxOf n) pos.toNat) (m := max (ns.idxOf n) pos.toNat + 1) _ (by rw [List.length_map]; omega)).trans ?_
              unfold span
              rw [List.map_take, List.map_drop]
            have h1 : H1' p1 = some (.lst (cutV (ns.map V.int) (some (if pos < (ns.idxOf n : Int) then pos else (ns.idxOf n : Int))) (some ((if pos > (ns.idxOf n : Int) then pos else (ns.idxOf n : Int)) + 1)))) := h1
            rw [ecut] at h1
            have smem : ∀ r ∈ span ns (ns.idxOf n) pos.toNat, r ∈ ns := fun r hr => List.mem_of_mem_drop (List.mem_of_mem_take hr)
            generalize hsp : span ns (ns.idxOf n) pos.toNat = sp at h1 smem ⊢
            have np1 : p1 ≠ fd := fun z => by rw [z, d] at n1; cases n1
            have nP1 : H1 p1 = none := by
              cases q : H1 p1 with
              | none => rfl
              | some o =>
                rw [e _ _ q] at n1
                cases n1
            refine ⟨p1, rfl, ⟨_, sqI h1⟩, for_list (K := K) (a := p1) (xs := sp.map V.int) (fun j σ' H3 => ∃ v9 v10 v12 ks', σ' = [some (.ref a), some (.ref m), some (.int n), some (.ref b), some (.ref pd), some (.ref fd), some (.str "range"), some (.int pos), some (.int (rowAt ns pos)), v9, v10, some (.bl (f n)), v12] ∧ Ex H1 H3 ∧ H3 p1 = some (.lst (sp.map V.int)) ∧ H3 fd = some (.dK (kvsOf ks' tt)) ∧ FdOk (fun r => if r ∈ sp.take j then f n else f r) (ms ++ ns) ks') ?_ ?_ ?_ ?_⟩
            · exact ⟨_, _, _, ks, rfl, e.trans e1', h1, e1' _ _ d, fok.congr fun r => by simp⟩
            · rintro j σ' H3 _ ⟨_, _, _, _, _, _, z, _⟩
              exact sqI z
            · rintro j x σ' H3 hj ⟨v9, v10, v12, ks', rfl, e3, l3, d3, f3⟩
              obtain ⟨t, ht, rfl⟩ := mapI_get hj
              have tm := smem t (List.mem_of_getElem? ht)
              refine ⟨_, rfl, _, rfl, ?_⟩
              refine ifB (fun c => ?_) (fun c => ?_)
              · refine ⟨_, rfl, _, rfl, _, _, rfl, .inl ⟨_, Sum.inl t, d3, rfl, big f3 hlm hl _, rfl⟩, ?_⟩
                rw [putK_tt]
                refine ⟨_, _, _, _, rfl, Evl.Ex.mut e3 hfd, (by rw [upd_ne np1]; exact l3), upd_same, (f3.put (List.mem_append_right _ tm)).congr fun r => ?_⟩
                rw [take_snoc ht]
                by_cases z : r = t
                · rw [if_pos z, if_pos (by simp [z]), c]
                · rw [if_neg z]
                  by_cases z2 : r ∈ sp.take j
                  · rw [if_pos z2, if_pos (List.mem_append_left _ z2)]
                  · rw [if_neg z2, if_neg (by simp [z, z2])]
              · have fin : ∀ r, (if r = t then false else if r ∈ sp.take j then f n else f r) = if r ∈ sp.take (j + 1) then f n else f r := fun r => by
                  rw [take_snoc ht]
                  by_cases z : r = t
                  · rw [if_pos z, if_pos (by simp [z]), c]
                  · rw [if_neg z]
                    by_cases z2 : r ∈ sp.take j
                    · rw [if_pos z2, if_pos (List.mem_append_left _ z2)]
                    · rw [if_neg z2, if_neg (by simp [z, z2])]
                refine ⟨_, rfl, _, rfl, .inl ⟨_, .inl d3⟩, _, rfl, _, Sum.inl t, d3, rfl, fun v hv => ?_, fun hv => ?_⟩
                · show ∃ v9 v10 v12 ks', _
                  refine ⟨_, _, _, _, rfl, Evl.Ex.mut e3 hfd, (by rw [upd_ne np1]; exact l3), ?_, (f3.drop t).congr fin⟩
                  rw [upd_same, dropK_kvs]
                · refine ⟨_, _, _, ks', rfl, e3, l3, d3, f3.congr fun r => ?_⟩
                  rw [← fin r]
                  by_cases z : r = t
                  · rw [if_pos z]
                    rw [valV_kvs] at hv
                    have nt : t ∉ ks' := fun z2 => by
                      rw [if_pos z2] at hv
                      cases hv
                    cases q : (if r ∈ sp.take j then f n else f r) with
                    | false => rfl
                    | true => exact absurd (z ▸ (f3.is r).mpr q) nt
                  · rw [if_neg z]
            · rintro σ' H3 ⟨v9, v10, v12, ks', rfl, e3, l3, d3, f3⟩
              refine ⟨_, _, _, _, _, _, _, ks', rfl, e3, d3, f3.congr fun r => ?_⟩
              rw [List.length_map, List.take_length]
      · rintro σ H' ⟨w6, w7, w8, w9, w10, w11, w12, ks, rfl, e, d, fok⟩
        have el : xs.length = cs.length := hc.1
        rw [el, List.take_length] at fok
        have ed : (cs.take xs.length).foldl (step ns) (fun r => decide (r ∈ ms), an) = done ns ms an cs := by
          rw [el, List.take_length]
          rfl
        rw [ed]
        have fok : FdOk (done ns ms an cs).1 (ms ++ ns) ks := fok
        refine ⟨_, rfl, fd, _, ks, rfl, d, kvs_keys ks tt, fun rs hp hs p1 H3 n1 e3 h1 => ?_⟩
        refine ⟨_, rfl, (by show 2 ≤ sizeLine; decide), fun p2 H4 n2 e4 h2 => ?_⟩
        have eH : Ex H H' := e1.trans e
        have back : ∀ {x : Addr}, H' x = none → H x = none := fun {x} hx => by
          cases q : H x with
          | none => rfl
          | some o =>
            rw [eH _ _ q] at hx
            cases hx
        have n2' : H' p2 = none := by
          cases q : H' p2 with
          | none => rfl
          | some o =>
            rw [e3 _ _ q] at n2
            cases n2
        exact k p1 p2 H4 rs (back n1) (eH.trans (e3.trans e4)) (ne_of_none h1 n2) (back n2') h2 (e4 _ _ h1) (asc_of hp hs fok.nd) (fun r => by rw [hp.mem_iff, fok.is]) (fun r hr => fok.dm r (hp.mem_iff.mp hr))
end
end K31
set_option Elab.async false
set_option pp.maxSteps 1200
set_option linter.all false
set_option maxRecDepth 100000
set_option maxHeartbeats 4000000
namespace K31
open PySem L2 My
theorem step_an (there : List Int) (f g : Int → Bool) (an : Option Int) (c : Cl) : (step there (f, an) c).2 = (step there (g, an) c).2 := by
  obtain ⟨word, pos⟩ := c
  cases h : rng there word an with
  | none => rw [step_cl h, step_cl h]
  | some n => rw [step_rng h, step_rng h]
theorem fold_an (there : List Int) : ∀ (cs : List Cl) (f g : Int → Bool) (an : Option Int), (cs.foldl (step there) (f, an)).2 = (cs.foldl (step there) (g, an)).2
  | [], _, _, _ => rfl
  | c :: cs, f, g, an => by
    show (cs.foldl (step there) (step there (f, an) c)).2 = (cs.foldl (step there) (step there (g, an) c)).2
    have e := step_an there f g an c
    generalize step there (f, an) c = s1 at e ⊢
    generalize step there (g, an) c = s2 at e ⊢
    obtain ⟨a1, b1⟩ := s1
    obtain ⟨a2, b2⟩ := s2
    have e : b1 = b2 := e
    subst e
    exact fold_an there cs a1 a2 b1
theorem done_an (there ms ms' : List Int) (an : Option Int) (cs : List Cl) : (done there ms an cs).2 = (done there ms' an cs).2 := fold_an there cs _ _ an
def posns (ns rows : List Int) : List Int := ((List.range ns.length).filter fun i => decide (ns.getD i 0 ∈ rows)).map fun i => ((i : Nat) : Int)
theorem inV_int (x : Int) (rows : List Int) : inV (V.int x) (rows.map V.int) = decide (x ∈ rows) := by
  unfold inV
  rw [List.any_map, Bool.eq_iff_iff, List.any_eq_true]
  constructor
  · rintro ⟨n, hn, e⟩
    have : n = x := by
      have e : (n == x) = true := e
      simpa using e
    subst this
    exact decide_eq_true hn
  · intro h
    exact ⟨x, of_decide_eq_true h, by show (x == x) = true; simp⟩
theorem inV_non (rows : List Int) : inV V.non (rows.map V.int) = false := by
  unfold inV
  rw [List.any_map, List.any_eq_false]
  intro n hn
  show ¬ (false = true)
  decide
theorem flatI (rows : List Int) : (rows.map V.int).all flatV = true := by
  rw [List.all_map, List.all_eq_true]
  intro _ _
  rfl
theorem pw_nodup {ms : List Int} (h : ms.Pairwise (· < ·)) : ms.Nodup := h.imp fun z => by omega
theorem Ex_back {H H' : Hp} (e : Ex H H') {x : Addr} (hx : H' x = none) : H x = none := by
  cases q : H x with
  | none => rfl
  | some o =>
    rw [e _ _ q] at hx
    cases hx
section
variable {w : World} {K : PySem.W.Frag} {mg : Str → Option Value} {base : Heap}
end
end K31
set_option Elab.async false
set_option pp.maxSteps 1200
set_option linter.all false
set_option maxRecDepth 100000
set_option maxHeartbeats 4000000
namespace K31
open PySem L2 My
/-! ### the source -/
/-- a source of draws stands at j, of which at most B were mixed -/
def Jug (H : Hp) (j : Addr) (B : Int) : Prop := ∃ x y z : Int, H j = some (.lst [.int x, .int y, .int z]) ∧ 0 ≤ y ∧ y < 2 ^ 200 ∧ 0 ≤ z ∧ z ≤ B
theorem Jug.ex {H H' : Hp} {j : Addr} {B : Int} (e : Ex H H') : Jug H j B → Jug H' j B
  | ⟨x, y, z, h, r⟩ => ⟨x, y, z, e _ _ h, r⟩
theorem Jug.mono {H : Hp} {j : Addr} {B B' : Int} (h : B ≤ B') : Jug H j B → Jug H j B'
  | ⟨x, y, z, h1, h2, h3, h4, h5⟩ => ⟨x, y, z, h1, h2, h3, h4, by omega⟩
theorem Jug.some {H : Hp} {j : Addr} {B : Int} : Jug H j B → ∃ o, H j = some o
  | ⟨_, _, _, h, _⟩ => ⟨_, h⟩
theorem Jug.ne {H : Hp} {j p : Addr} {B : Int} (h : Jug H j B) (n : H p = none) : p ≠ j := by
  obtain ⟨o, ho⟩ := h.some
  exact (ne_of_none ho n).symm
theorem Jug.upd {H : Hp} {j p : Addr} {B : Int} {o : HO} (n : p ≠ j) : Jug H j B → Jug (upd H p o) j B
  | ⟨x, y, z, h, r⟩ => ⟨x, y, z, by rw [upd_ne n.symm]; exact h, r⟩
theorem _root_.My.Exj.back {j p : Addr} {H H' : Hp} (e : Exj j H H') (n : p ≠ j) (h : H' p = none) : H p = none := by
  cases q : H p with
  | none => rfl
  | some o =>
    rw [e p o n q] at h
    cases h
theorem mix_lt {m z : Int} (h0 : 0 ≤ m) (h1 : m < 2 ^ 200) (z0 : 0 ≤ z) (z1 : z ≤ 2 ^ 60) : (m + 32452843 * (z + 1)).natAbs < 2 ^ 210 := by omega
def sp__law_draw : Sp := fun vs H Q _ => ∃ (j : Addr) (many B : Int), vs = [.ref j, .int many] ∧ Jug H j B ∧ B ≤ 2 ^ 60 ∧ 0 < many ∧ many < 2 ^ 200 ∧
  ∀ (n : Int) (H' : Hp), 0 ≤ n → n < many → Exj j H H' → Jug H' j (B + 1) → Q (.int n) H'
def sp__law_source (K : PySem.W.Frag) : Sp := fun vs H Q _ => ∃ (a : Addr) (ns : List Int) (k : Int), vs = [.ref a, .int k] ∧ SqL K H a (ns.map V.int) ∧ 0 ≤ k ∧ k ≤ 100 ∧ ∀ (p : Addr) (H' : Hp), H p = none → Ex H H' → Jug H' p 0 → Q (.ref p) H'
section
variable {P : Program} {w : World} {K : PySem.W.Frag} {mg : Str → Option Value} {base : Heap}
theorem ok__law_draw (T : Txt K mg) : FnOk P w K mg base CX0 1 T.a__law_draw T.d__law_draw ["_law_source_here", "_law_bound"] sp__law_draw := by
  refine T.f__law_draw.ok sc__law_draw (fun vs H Q E h => ?_) (fun cdv A outer s H vs Q E hr h => ?_)
  · obtain ⟨j, many, B, rfl, _⟩ := h
    rfl
  · obtain ⟨j, many, B, rfl, ⟨x, y, z, hj, y0, y1, z0, z1⟩, hB, m0, m1, k⟩ := h
    refine ⟨_, (pss_cons (ps_if (pt_cmpR op_gt (pe_ix ix_list (pv 0) pe_int (fun _ _ => rfl)) pe_int (nomark _)) (pss_cons (ps_set (i := 2) sc__law_draw.nd rfl (by first | exact Or.inl rfl | exact Or.inr rfl) (pe_op op_mod (pe_callTy call_int1 (by rfl) T.z_int (by decide +kernel) (pa_cons (pe_ix ix_list (pv 0) pe_int (fun _ _ => rfl)) pa_nil)) (pv 1))) (pss_cons (ps_asg (pe_op op_fdivW (pe_ix ix_list (pv 0) pe_int (fun _ _ => rfl)) (pv 1)) (pg_sub (pv 0) pe_int set_list)) (pss_one (ps_ret (pv 2))))) pss_nil) (pss_cons (ps_asg (pe_op op_add (pe_ix ix_list (pv 0) pe_int (fun _ _ => rfl)) pe_int) (pg_sub (pv 0) pe_int set_list)) (pss_cons (ps_set (i := 3) sc__law_draw.nd rfl (by first | exact Or.inl rfl | exact Or.inr rfl) (pe_op op_mod (pe_callTy call_int1 (by rfl) T.z_int (by decide +kernel) (pa_cons (pe_op op_powW (pe_op op_add (pe_ix ix_list (pv 0) pe_int (fun _ _ => rfl)) (pe_op op_mulW pe_int (pe_ix ix_list (pv 0) pe_int (fun _ _ => rfl)))) pe_int) pa_nil)) (pe_op op_add (pe_op op_powW pe_int pe_int) pe_int))) (pss_cons (ps_set (i := 3) sc__law_draw.nd rfl (by first | exact Or.inl rfl | exact Or.inr rfl) (pe_op op_mod (pe_callTy call_int1 (by rfl) T.z_int (by decide +kernel) (pa_cons (pe_op op_powW (pe_op op_add (pv 3) (pe_op op_mulW pe_int (pe_ix ix_list (pv 0) pe_int (fun _ _ => rfl)))) pe_int) pa_nil)) (pe_op op_add (pe_op op_powW pe_int pe_int) pe_int))) (pss_one (ps_ret (pe_op op_mod (pe_op op_fdivW (pe_callTy call_int1 (by rfl) T.z_int (by decide +kernel) (pa_cons (pv 3) pa_nil)) pe_int) (pv 1)))))))), ?_⟩
    have sq : ∀ {H' : Hp} {l : List V}, H' j = some (.lst l) → SqL K H' j l := fun h => sqI h
    have m2 : many.natAbs < 2 ^ 200 := by omega
    refine ⟨_, rfl, _, _, _, _, rfl, rfl, sq hj, at0, _, _, rfl, rfl, _, rfl, ?_⟩
    refine ite2 (fun c => ?_) (fun c => ?_)
    · refine ⟨_, rfl, _, _, _, _, rfl, rfl, sq hj, at0, .inl ⟨_, rfl, ?_⟩⟩
      refine ⟨_, rfl, _, _, rfl, rfl, m0, ?_⟩
      refine ⟨_, rfl, _, _, _, _, rfl, rfl, sq hj, at0, _, rfl, _, _, rfl, rfl, wide_div m0 m2 (by decide) (by decide), _, rfl, _, _, _, _, rfl, rfl, hj, (show _ = some 0 from rfl), ?_⟩
      refine ⟨_, rfl, ?_⟩
      exact k _ _ (Int.emod_nonneg _ (by omega)) (Int.emod_lt_of_pos _ m0) (Exj.refl _ _).upd ⟨_, y, z, upd_same, y0, y1, z0, by omega⟩
    · refine ⟨_, rfl, _, _, _, _, rfl, rfl, sq hj, at2, _, _, rfl, rfl, _, rfl, _, _, _, _, rfl, rfl, hj, (show _ = some 2 from rfl), ?_⟩
      have hj1 : L2.upd H j (.lst [.int x, .int y, .int (z + 1)]) j = some (.lst [.int x, .int y, .int (z + 1)]) := upd_same
      have ez : (z + 1).natAbs < 2 ^ 70 := by omega
      have b1 : (y + 15485863 * (z + 1)).natAbs < 2 ^ 210 := by omega
      refine ⟨_, rfl, _, _, _, _, rfl, rfl, sq hj1, at1, _, rfl, _, _, _, _, rfl, rfl, sq hj1, at2, _, _, rfl, rfl, wide_mul (a := 30) (b := 70) (by decide) ez (by decide) (by decide) (by decide), _, _, rfl, rfl, _, _, rfl, rfl, powW_of (j := 3) b1 (by decide) (by decide), .inl ⟨_, rfl, ?_⟩⟩
      refine ⟨_, _, rfl, rfl, (show CPowW 10 35 by constructor <;> decide +kernel), _, _, rfl, rfl, _, _, rfl, rfl, (show (0 : Int) < 10 ^ (35 : Int).toNat + 69 by decide +kernel), ?_⟩
      have q0 := Int.emod_nonneg ((y + 15485863 * (z + 1)) ^ (3 : Int).toNat) (show ((10 : Int) ^ (35 : Int).toNat + 69) ≠ 0 by decide +kernel)
      have q1 := Int.emod_lt_of_pos ((y + 15485863 * (z + 1)) ^ (3 : Int).toNat) (show 0 < ((10 : Int) ^ (35 : Int).toNat + 69) by decide +kernel)
      have q2 : ((10 : Int) ^ (35 : Int).toNat + 69) < 2 ^ 200 := by decide +kernel
      have b2 := mix_lt (z := z) q0 (Int.lt_trans q1 q2) z0 (Int.le_trans z1 hB)
      refine ⟨_, rfl, _, rfl, _, _, _, _, rfl, rfl, sq hj1, at2, _, _, rfl, rfl, wide_mul (a := 30) (b := 70) (by decide) ez (by decide) (by decide) (by decide), _, _, rfl, rfl, _, _, rfl, rfl, powW_of (j := 3) b2 (by decide) (by decide), .inl ⟨_, rfl, ?_⟩⟩
      refine ⟨_, _, rfl, rfl, (show CPowW 10 32 by constructor <;> decide +kernel), _, _, rfl, rfl, _, _, rfl, rfl, (show (0 : Int) < 10 ^ (32 : Int).toNat + 49 by decide +kernel), ?_⟩
      refine ⟨_, rfl, .inl ⟨_, rfl, _, _, rfl, rfl, wide_div (b := 40) (by decide) (by decide) (by decide) (by decide), _, rfl, _, _, rfl, rfl, m0, ?_⟩⟩
      exact k _ _ (Int.emod_nonneg _ (by omega)) (Int.emod_lt_of_pos _ m0) (Exj.refl _ _).upd ⟨x, y, z + 1, upd_same, y0, y1, by omega, by omega⟩
theorem ok__law_source (T : Txt K mg) : FnOk P w K mg base CX0 1 T.a__law_source T.d__law_source ["_law_script", "_law_index"] (sp__law_source K) := by
  refine T.f__law_source.ok sc__law_source (fun vs H Q E h => ?_) (fun cdv A outer s H vs Q E hr h => ?_)
  · obtain ⟨a, ns, k, rfl, _⟩ := h
    rfl
  · obtain ⟨a, ns, n, rfl, hs, n0, n1, k⟩ := h
    refine ⟨_, (pss_cons (ps_set (i := 2) sc__law_source.nd rfl (by first | exact Or.inl rfl | exact Or.inr rfl) pe_int) (pss_cons (ps_cut (ps_if (pt_cmpR op_lt (pv 1) (pe_callB call_len_seq (by rfl) T.z_len PySem.boot_len (pa_cons (pv 0) pa_nil)) (nomark _)) (pss_one (ps_set (i := 2) sc__law_source.nd rfl (by first | exact Or.inl rfl | exact Or.inr rfl) (pe_ix ix_list (pv 0) (pv 1) (fun _ _ => rfl)))) pss_nil)) (pss_one (ps_ret (pe_lstG (pa_cons (pe_callB (call_max2 rfl) (by rfl) T.z_max (by decide +kernel) (pa_cons pe_int (pa_cons (pe_op op_sub (pv 2) (pe_op op_powW pe_int pe_int)) pa_nil))) (pa_cons (pe_op op_add (pe_op op_mod (pe_callTy call_int1 (by rfl) T.z_int (by decide +kernel) (pa_cons (pv 2) pa_nil)) (pe_op op_add (pe_op op_powW pe_int pe_int) pe_int)) (pe_op op_mulW pe_int (pv 1))) (pa_cons pe_int pa_nil)))))))), ?_⟩
    refine ⟨fun σ H' => H' = H ∧ ∃ c : Int, σ = [Option.some (.ref a), Option.some (.int n), Option.some (.int c)], ?_, ?_⟩
    · refine ⟨_, rfl, _, rfl, _, _, rfl, .inl hs, _, _, rfl, rfl, _, rfl, ?_⟩
      refine ifB (fun c => ?_) (fun c => ⟨rfl, _, rfl⟩)
      have c' : n < ((ns.map V.int).length : Int) := of_decide_eq_true c
      rw [List.length_map] at c'
      have hx : ns[n.toNat]? = Option.some (ns[n.toNat]'(by omega)) := List.getElem?_eq_getElem (by omega)
      exact ⟨_, rfl, _, rfl, _, _, _, _, rfl, rfl, hs, at_of (j := n.toNat) (by omega) (by rw [List.getElem?_map, hx]; rfl), rfl, _, rfl⟩
    · rintro σ H' ⟨rfl, c, rfl⟩
      have q0 := Int.emod_nonneg c (show ((10 : Int) ^ (37 : Int).toNat + 43) ≠ 0 by decide +kernel)
      have q1 := Int.emod_lt_of_pos c (show 0 < ((10 : Int) ^ (37 : Int).toNat + 43) by decide +kernel)
      have q2 : ((10 : Int) ^ (37 : Int).toNat + 43) < 2 ^ 140 := by decide +kernel
      refine ⟨_, rfl, _, _, rfl, rfl, (show CPowW 10 18 by constructor <;> decide +kernel), _, _, rfl, rfl, _, _, rfl, ?_⟩
      refine ⟨_, rfl, .inl ⟨_, rfl, _, _, rfl, rfl, (show CPowW 10 37 by constructor <;> decide +kernel), _, _, rfl, rfl, _, _, rfl, rfl, (show (0 : Int) < 10 ^ (37 : Int).toNat + 43 by decide +kernel), _, rfl, _, _, rfl, rfl, wide_mul (a := 30) (b := 10) (by decide) (by omega) (by decide) (by decide) (by decide), _, _, rfl, rfl, (by show 3 ≤ sizeLine; decide), fun p1 H1 n1 e1 h1 => ?_⟩⟩
      refine k p1 H1 n1 e1 ⟨_, _, _, h1, ?_, ?_, Int.le_refl _, Int.le_refl _⟩
      · show 0 ≤ c % ((10 : Int) ^ (37 : Int).toNat + 43) + 1299709 * n
        omega
      · show c % ((10 : Int) ^ (37 : Int).toNat + 43) + 1299709 * n < 2 ^ 200
        have := Int.lt_trans q1 q2
        generalize c % ((10 : Int) ^ (37 : Int).toNat + 43) = d at q0 this ⊢
        omega
end
end K31
set_option Elab.async false
set_option pp.maxSteps 1200
set_option linter.all false
set_option maxRecDepth 100000
set_option maxHeartbeats 4000000
namespace K31
open PySem L2 My
/-- clicks that stand in the heap -/
def ClsH (H : Hp) (vs : List V) (cs : List Cl) : Prop := vs.length = cs.length ∧ ∀ (i : Nat) v c, vs[i]? = some v → cs[i]? = some c → ∃ q, v = .ref q ∧ H q = some (.tup [.str c.1, .int c.2])
theorem ClsH.cls {K : PySem.W.Frag} {H : Hp} {vs : List V} {cs : List Cl} (h : ClsH H vs cs) : Cls K H vs cs := ⟨h.1, fun i v c h1 h2 => let ⟨q, e1, e2⟩ := h.2 i v c h1 h2; ⟨q, e1, sqT e2⟩⟩
theorem ClsH.ex {H H' : Hp} {vs : List V} {cs : List Cl} (e : Ex H H') (h : ClsH H vs cs) : ClsH H' vs cs := ⟨h.1, fun i v c h1 h2 => let ⟨q, e1, e2⟩ := h.2 i v c h1 h2; ⟨q, e1, e _ _ e2⟩⟩
theorem ClsH.exj {H H' : Hp} {j : Addr} {B : Int} {vs : List V} {cs : List Cl} (e : Exj j H H') (hj : Jug H j B) (h : ClsH H vs cs) : ClsH H' vs cs := ⟨h.1, fun i v c h1 h2 => by
  obtain ⟨q, e1, e2⟩ := h.2 i v c h1 h2
  obtain ⟨x, y, z, hj, _⟩ := hj
  exact ⟨q, e1, e _ _ (fun z => by rw [z, hj] at e2; cases e2) e2⟩⟩
theorem ClsH.snoc {H : Hp} {vs : List V} {cs : List Cl} (h : ClsH H vs cs) {q : Addr} {c : Cl} (hq : H q = some (.tup [.str c.1, .int c.2])) : ClsH H (vs ++ [.ref q]) (cs ++ [c]) := by
  refine ⟨by simp [h.1], fun i v d h1 h2 => ?_⟩
  by_cases z : i < vs.length
  · rw [List.getElem?_append_left z] at h1
    rw [List.getElem?_append_left (by rw [← h.1]; exact z)] at h2
    exact h.2 i v d h1 h2
  · rw [List.getElem?_append_right (by omega)] at h1
    rw [List.getElem?_append_right (by rw [← h.1]; omega), ← h.1] at h2
    cases q : i - vs.length with
    | zero =>
      rw [q] at h1 h2
      cases h1
      cases h2
      exact ⟨_, rfl, hq⟩
    | succ n =>
      rw [q] at h1
      cases h1
theorem ClsH.take {H : Hp} {vs : List V} {cs : List Cl} (h : ClsH H vs cs) (n : Nat) : ClsH H (vs.take n) (cs.take n) := by
  refine ⟨by simp [h.1], fun i v d h1 h2 => ?_⟩
  rw [List.getElem?_take] at h1 h2
  split at h1
  · rename_i z
    rw [if_pos z] at h2
    exact h.2 i v d h1 h2
  · cases h1
theorem ClsH.drop {H : Hp} {vs : List V} {cs : List Cl} (h : ClsH H vs cs) (n : Nat) : ClsH H (vs.drop n) (cs.drop n) := by
  refine ⟨by simp [h.1], fun i v d h1 h2 => ?_⟩
  rw [List.getElem?_drop] at h1 h2
  exact h.2 _ v d h1 h2
def sp__law_some (K : PySem.W.Frag) : Sp := fun vs H Q _ => ∃ (j t : Addr) (size B : Int) (ns : List Int), vs = [.ref j, .ref t, .int size] ∧ Jug H j B ∧ B ≤ 2 ^ 50 ∧ SqL K H t (ns.map V.int) ∧ ns.length ≤ 100 ∧ 0 ≤ size ∧ size ≤ 1000 ∧
  ∀ (p : Addr) (H' : Hp) (ts ls : List Int), H p = none → Exj j H H' → p ≠ j → Jug H' j (B + 100) → H' p = some (.lst (ts.map V.int)) → (ts ++ ls).Perm ns → (ts.length : Int) = min size ns.length → Q (.ref p) H'
def sp__law_clicks : Sp := fun vs H Q _ => ∃ (j : Addr) (size many B : Int), vs = [.ref j, .int size, .int many] ∧ Jug H j B ∧ B ≤ 2 ^ 50 ∧ 0 ≤ size ∧ size ≤ 1000 ∧ 0 ≤ many ∧ many ≤ 100 ∧
  ∀ (p : Addr) (H' : Hp) (xs : List V) (cs : List Cl), H p = none → Exj j H H' → p ≠ j → Jug H' j (B + 500) → H' p = some (.lst xs) → ClsH H' xs cs → ClOk size.toNat cs → cs.length ≤ 100 → Q (.ref p) H'
section
variable {P : Program} {w : World} {K : PySem.W.Frag} {mg : Str → Option Value} {base : Heap}
theorem erase_perm {α : Type} : ∀ {ls : List α} {k : Nat} {y : α}, ls[k]? = some y → (y :: ls.eraseIdx k).Perm ls
  | a :: ls, 0, y, h => by
    cases h
    exact List.Perm.refl _
  | a :: ls, k + 1, y, h => by
    have ih := erase_perm (ls := ls) (k := k) (y := y) h
    show (y :: a :: ls.eraseIdx k).Perm (a :: ls)
    exact (List.Perm.swap a y _).trans (ih.cons a)
theorem map_erase {α β : Type} (f : α → β) : ∀ (l : List α) (k : Nat), (l.map f).eraseIdx k = (l.eraseIdx k).map f
  | [], _ => rfl
  | _ :: _, 0 => rfl
  | a :: l, k + 1 => by
    show f a :: (l.map f).eraseIdx k = f a :: (l.eraseIdx k).map f
    rw [map_erase f l k]
theorem ok__law_some (T : Txt K mg) : FnOk P w K mg base CX0 2 T.a__law_some T.d__law_some ["_law_source_here", "_law_things", "_law_size"] (sp__law_some K) := by
  refine T.f__law_some.ok sc__law_some (fun vs H Q E h => ?_) (fun cdv A outer s H vs Q E hr h => ?_)
  · obtain ⟨j, t, size, B, ns, rfl, _⟩ := h
    rfl
  · obtain ⟨j, t, size, B, ns, rfl, hj, hB, ht, hl, s0, s1, k⟩ := h
    refine ⟨_, (pss_cons (ps_set (i := 3) sc__law_some.nd rfl (by first | exact Or.inl rfl | exact Or.inr rfl) (pe_callTy call_listG (by rfl) T.z_list (by decide +kernel) (pa_cons (pv 1) pa_nil))) (pss_one (ps_ret (pe_lc (own := [("_law_step", 4)]) (g := gName 4) (by rfl) sc__law_some.nd (pi_range1 (by rfl) T.z_range (pa_cons (pe_callB (call_min2 rfl) (by rfl) T.z_min (by decide +kernel) (pa_cons (pv 2) (pa_cons (pe_callB call_len_seq (by rfl) T.z_len PySem.boot_len (pa_cons (pv 3) pa_nil)) pa_nil))) pa_nil)) (blkOk_by (own := [("_law_step", 4)]) (N := ["_law_source_here", "_law_things", "_law_size", "_law_left", "_law_step"]) (sc := (defScope s__law_some)) (by decide +kernel)) (fun _ _ _ _ _ => (pg_name (i := 4) sc__law_some.nd rfl (by first | exact Or.inl rfl | exact Or.inr rfl))) (fun _ _ _ _ _ => pts_nil) (fun _ _ _ _ _ => (peBMK (K := K) (by rfl) (pe_bm PySem.F.plainAttrs_list PySem.F.slot_list_pop PySem.F.type_list_pop mt_popAt (pv 3) (pa_cons (pe_call (ok__law_draw T) (hr.mono (by decide)) (by rfl) T.g__law_draw T.f__law_draw.kp (b__law_draw T) .nil pass0 (pa_cons (pv 0) (pa_cons (pe_callB (crK (r := rLenSq) (K := K) (by rfl) call_len_seq) (by rfl) T.z_len PySem.boot_len (pa_cons (pv 3) pa_nil)) pa_nil))) pa_nil)))))))), ?_⟩
    refine ⟨_, rfl, _, _, rfl, .inl ht, fun L H1 n1 e1 h1 => ?_⟩
    have nL : L ≠ j := hj.ne n1
    refine ⟨_, rfl, _, rfl, _, _, rfl, .inl (sqI h1), _, _, rfl, ?_⟩
    have em : (if ((ns.map V.int).length : Int) < size then ((ns.map V.int).length : Int) else size) = ((min size.toNat ns.length : Nat) : Int) := by
      rw [List.length_map]
      split <;> omega
    rw [em]
    refine ⟨_, rfl, (by omega), (by omega), fun D hD => ?_⟩
    have nD : D ≠ j := (hj.ex e1).ne hD
    have nDL : D ≠ L := (ne_of_none h1 hD).symm
    refine lc_range (lo := 0) (n := (((min size.toNat ns.length : Nat) : Int)).toNat) (fun i H2 => ∃ ts ls : List Int, Exj j H H2 ∧ Jug H2 j (B + i) ∧ H2 L = some (.lst (ls.map V.int)) ∧ H2 D = some (.lst (ts.map V.int)) ∧ ts.length = i ∧ (ts ++ ls).Perm ns) ?_ ?_ ?_
    · exact ⟨[], ns, (Exj.of e1).new hD, ((hj.ex e1).upd nD).mono (by omega), by rw [upd_ne nDL.symm]; exact h1, upd_same, rfl, List.Perm.refl _⟩
    · rintro i H2 hi ⟨ts, ls, e2, j2, l2, d2, hti, pm⟩
      have hlen : ts.length + ls.length = ns.length := by rw [← List.length_append]; exact pm.length_eq
      have hi' : i < ns.length := by omega
      refine ⟨rfl, ?_⟩
      show _
      refine ⟨_, rfl, .inl ⟨rfl, _, sqI l2⟩, _, rfl, _, rfl, _, _, rfl, .inl (sqI l2), j, _, _, rfl, j2, by omega, ?_, ?_, fun n H3 k0 k1 e3 j3 => ?_⟩
      · rw [List.length_map]
        omega
      · rw [List.length_map]
        omega
      · rw [List.length_map] at k1
        have l3 := e3 _ _ nL l2
        have hy : ls[n.toNat]? = some (ls[n.toNat]'(by omega)) := List.getElem?_eq_getElem (by omega)
        refine ⟨_, _, _, n.toNat, _, rfl, rfl, l3, by omega, by omega, ?_, by rw [List.getElem?_map, hy]; rfl, ?_⟩
        · rw [List.length_map]
          exact seqIndex_of k0 k1
        · refine ⟨ts.map V.int, by rw [upd_ne nDL]; exact e3 _ _ nD d2, ?_, ?_⟩
          · rw [List.length_map, hti]
            exact Nat.lt_of_lt_of_le (show i < 100 by omega) (by decide)
          · refine ⟨ts ++ [ls[n.toNat]'(by omega)], ls.eraseIdx n.toNat, ?_, ?_, ?_, ?_, by simp [hti], ?_⟩
            · intro b o nb hb
              have hb1 := e1 b o hb
              rw [upd_ne (ne_of_none hb1 hD), upd_ne (ne_of_none hb n1)]
              exact e3 _ _ nb (e2 _ _ nb hb)
            · exact ((j3.upd nL).upd nD).mono (by omega)
            · rw [upd_ne nDL.symm, upd_same, map_erase]
            · rw [upd_same, List.map_append]
              rfl
            · refine List.Perm.trans ?_ pm
              rw [List.append_assoc]
              exact (erase_perm hy).append_left ts
    · rintro H2 ⟨ts, ls, e2, j2, l2, d2, hti, pm⟩
      refine k D H2 ts ls (Ex_back e1 hD) e2 nD (j2.mono (by omega)) d2 pm ?_
      rw [hti]
      omega
theorem ok__law_clicks (T : Txt K mg) : FnOk P w K mg base CX0 2 T.a__law_clicks T.d__law_clicks ["_law_source_here", "_law_size", "_law_many"] sp__law_clicks := by
  refine T.f__law_clicks.ok sc__law_clicks (fun vs H Q E h => ?_) (fun cdv A outer s H vs Q E hr h => ?_)
  · obtain ⟨j, size, many, B, rfl, _⟩ := h
    rfl
  · obtain ⟨j, size, many, B, rfl, hj, hB, s0, s1, m0, m1, k⟩ := h
    refine ⟨_, (pss_cons (ps_set (i := 3) sc__law_clicks.nd rfl (by first | exact Or.inl rfl | exact Or.inr rfl) (pe_lstG pa_nil)) (pss_cons (ps_for PassesOwn.never rfl (pi_range1 (by rfl) T.z_range (pa_cons (pe_op op_mulW (pe_call (ok__law_draw T) (hr.mono (by decide)) (by rfl) T.g__law_draw T.f__law_draw.kp (b__law_draw T) .nil pass0 (pa_cons (pv 0) (pa_cons (pe_op op_add (pv 2) pe_int) pa_nil))) (pe_callTy call_int1 (by rfl) T.z_int (by decide +kernel) (pa_cons (pe_cmpR op_gt (pv 1) pe_int (nomark _)) pa_nil))) pa_nil)) (pg_name (i := 4) sc__law_clicks.nd rfl (by first | exact Or.inl rfl | exact Or.inr rfl)) (pss_one (ps_expr (pe_bm PySem.F.plainAttrs_list PySem.F.slot_list_append PySem.F.type_list_append mt_append (pv 3) (pa_cons (pe_tupG (pa_cons (pe_ix ix_list (pe_lstG (pa_cons pe_str (pa_cons pe_str pa_nil))) (pe_call (ok__law_draw T) (hr.mono (by decide)) (by rfl) T.g__law_draw T.f__law_draw.kp (b__law_draw T) .nil pass0 (pa_cons (pv 0) (pa_cons pe_int pa_nil))) (fun _ _ => rfl)) (pa_cons (pe_call (ok__law_draw T) (hr.mono (by decide)) (by rfl) T.g__law_draw T.f__law_draw.kp (b__law_draw T) .nil pass0 (pa_cons (pv 0) (pa_cons (pv 1) pa_nil))) pa_nil))) pa_nil))))) (pss_one (ps_ret (pv 3))))), ?_⟩
    refine ⟨(by show 0 ≤ sizeLine; decide), fun p1 H1 n1 e1 h1 => ?_⟩
    have nP : p1 ≠ j := hj.ne n1
    refine ⟨_, rfl, _, rfl, _, _, rfl, rfl, j, _, _, rfl, hj.ex e1, by omega, by omega, by omega, fun n H2 n0 n2 e2 j2 => ?_⟩
    refine ⟨_, rfl, _, _, rfl, rfl, .inr ⟨_, rfl, ?_⟩⟩
    have eb : ∃ u : Int, (if decide (size > 0) = true then (1 : Int) else 0) = u ∧ 0 ≤ u ∧ u ≤ 1 ∧ (0 < u → 0 < size) := by
      by_cases z : size > 0
      · exact ⟨1, by simp [z], by omega, by omega, fun _ => z⟩
      · exact ⟨0, by simp [z], by omega, by omega, fun z => absurd z (by omega)⟩
    obtain ⟨u, eu, u0, u1, us⟩ := eb
    rw [eu]
    have en : ∃ m : Nat, n * u = (m : Int) ∧ m ≤ 100 ∧ (0 < m → 0 < size) := by
      rcases (show u = 0 ∨ u = 1 by omega) with z | z
      · exact ⟨0, by rw [z]; simp, by omega, fun h => absurd h (by omega)⟩
      · exact ⟨n.toNat, by rw [z]; omega, by omega, fun _ => us (by omega)⟩
    obtain ⟨m, em, ml, ms⟩ := en
    refine ⟨_, _, rfl, rfl, wide_mul (a := 30) (b := 30) (by omega) (by omega) (by decide) (by decide) (by decide), ?_⟩
    refine ⟨n * u, rfl, (by omega), (by omega), for_range (lo := 0) (n := (n * u).toNat) (fun i σ H3 => ∃ v4 xs cs, σ = [some (.ref j), some (.int size), some (.int many), some (.ref p1), v4] ∧ Exj j H H3 ∧ Jug H3 j (B + 1 + 2 * i) ∧ H3 p1 = some (.lst xs) ∧ ClsH H3 xs cs ∧ ClOk size.toNat cs ∧ cs.length = i) ?_ ?_ ?_⟩
    · exact ⟨_, [], [], rfl, (Exj.of e1).trans e2, j2.mono (by omega), e2 _ _ nP h1, ⟨rfl, fun i v c h => (by cases h)⟩, (fun c hc => (by cases hc)), rfl⟩
    · rintro i σ H3 hi ⟨v4, xs, cs, rfl, e3, j3, h3, c3, ok3, l3⟩
      refine ⟨_, rfl, .inl ⟨rfl, _, sqI h3⟩, (by show 2 ≤ sizeLine; decide), fun p4 H4 n4 e4 h4 => ?_⟩
      have nP4 : p4 ≠ j := j3.ne n4
      refine ⟨_, rfl, j, _, _, rfl, j3.ex e4, by omega, by decide, by decide, fun d H5 d0 d1 e5 j5 => ?_⟩
      have h5 := e5 _ _ nP4 h4
      have ea : ∃ wd : Str, atI [V.str "click", V.str "range"] d = some (.str wd) ∧ (wd = "click" ∨ wd = "range") := by
        rcases (show d = 0 ∨ d = 1 by omega) with z | z
        · exact ⟨_, by rw [z]; exact at0, .inl rfl⟩
        · exact ⟨_, by rw [z]; exact at1, .inr rfl⟩
      obtain ⟨wd, ea, wok⟩ := ea
      refine ⟨_, _, _, _, rfl, rfl, sqI h5, ea, ?_⟩
      refine ⟨_, rfl, _, rfl, j, _, _, rfl, j5, by omega, ms (by omega), by omega, fun pos H6 p0 p2 e6 j6 => ?_⟩
      refine ⟨(by show 2 ≤ sizeLine; decide), fun p7 H7 n7 e7 h7 => ?_⟩
      have x3 : H7 p1 = some (.lst xs) := e7 _ _ (e6 _ _ nP (e5 _ _ nP (e4 _ _ h3)))
      have c7 : ClsH H7 xs cs := (((c3.ex e4).exj e5 (j3.ex e4)).exj e6 j5).ex e7
      refine ⟨_, _, _, rfl, rfl, x3, ?_, ?_⟩
      · rw [c3.1, l3]
        exact Nat.lt_of_lt_of_le (show i < 200 by omega) (by decide)
      · have n17 : p7 ≠ p1 := fun z => by
          rw [z] at n7
          rw [e6 _ _ nP (e5 _ _ nP (e4 _ _ h3))] at n7
          cases n7
        have tup : ∀ {q : Addr} {ys : List V}, H7 q = some (.tup ys) → L2.upd H7 p1 (.lst (xs ++ [.ref p7])) q = some (.tup ys) := fun {q ys} hq => by
          rw [upd_ne (fun z => by rw [z, x3] at hq; cases hq)]
          exact hq
        have c8 : ClsH (L2.upd H7 p1 (.lst (xs ++ [.ref p7]))) xs cs := ⟨c7.1, fun i v c h1 h2 => let ⟨q, a1, a2⟩ := c7.2 i v c h1 h2; ⟨q, a1, tup a2⟩⟩
        refine ⟨_, xs ++ [.ref p7], cs ++ [(wd, pos)], rfl, ?_, ?_, upd_same, c8.snoc (tup h7), ?_, by simp [l3]⟩
        · intro b o nb hb
          rw [upd_ne (ne_of_none hb n1)]
          exact e7 _ _ (e6 _ _ nb (e5 _ _ nb (e4 _ _ (e3 _ _ nb hb))))
        · exact ((j6.ex e7).upd nP).mono (by omega)
        · intro c hc
          rcases List.mem_append.mp hc with z | z
          · exact ok3 c z
          · have : c = (wd, pos) := by simpa using z
            subst this
            exact ⟨wok, p0, by show pos < _; omega⟩
    · rintro σ H3 ⟨v4, xs, cs, rfl, e3, j3, h3, c3, ok3, l3⟩
      exact ⟨_, rfl, k p1 H3 xs cs n1 e3 nP (j3.mono (by omega)) h3 c3 ok3 (by omega)⟩
end
end K31
set_option Elab.async false
set_option pp.maxSteps 1200
set_option linter.all false
set_option maxRecDepth 100000
set_option maxHeartbeats 4000000
namespace K31
open PySem L2 My
/-! borders, blocks, costs, covers of marks -/
abbrev Bk := Int × Int
def flagL (ns ms : List Int) : List Bool := [false] ++ ns.map (fun r => decide (r ∈ ms)) ++ [false]
def bordersL (ns ms : List Int) : List Int := ((List.range (ns.length + 1)).map fun i => (0 : Int) + ((i : Nat) : Int)).filter fun p => !decide ((flagL ns ms).getD p.toNat false = (flagL ns ms).getD (p.toNat + 1) false)
def addB (bs : List Bk) (b : Int) : List Bk := match bs.getLast? with
  | none => bs ++ [(b, b)]
  | some k => if k.2 = b - 1 then bs.dropLast ++ [(k.1, b)] else bs ++ [(b, b)]
def blocksL (ps : List Int) : List Bk := ps.foldl addB []
def costB (k : Bk) : Int := (k.2 - k.1 + 2) / 2
def costL (ns ms : List Int) : Int := ((blocksL (bordersL ns ms)).map costB).sum
def numB (k : Bk) : Int := if (k.2 - k.1 + 1) % 2 = 1 then (k.2 - k.1 + 1) / 2 + 1 else 1
def countL (ns ms : List Int) : Int := ((blocksL (bordersL ns ms)).map numB).foldl (· * ·) 1
theorem addB_snoc (bs : List Bk) (k : Bk) (b : Int) : addB (bs ++ [k]) b = if k.2 = b - 1 then bs ++ [(k.1, b)] else bs ++ [k] ++ [(b, b)] := by
  unfold addB
  rw [List.getLast?_concat]
  simp only [List.dropLast_concat]
theorem addB_len (bs : List Bk) (b : Int) : (addB bs b).length ≤ bs.length + 1 := by
  unfold addB
  split
  · simp
  · split
    · have : bs.dropLast.length ≤ bs.length := by rw [List.length_dropLast]; omega
      rw [List.length_append]
      show _ + 1 ≤ _
      omega
    · simp
theorem foldB_len : ∀ (ps : List Int) (bs : List Bk), (ps.foldl addB bs).length ≤ bs.length + ps.length
  | [], bs => Nat.le_refl _
  | p :: ps, bs => by
    have := foldB_len ps (addB bs p)
    have := addB_len bs p
    rw [List.foldl_cons, List.length_cons]
    omega
theorem blocks_len (ps : List Int) : (blocksL ps).length ≤ ps.length := by
  have := foldB_len ps []
  simpa [blocksL] using this
theorem borders_len (ns ms : List Int) : (bordersL ns ms).length ≤ ns.length + 1 := by
  unfold bordersL
  refine Nat.le_trans (List.length_filter_le _ _) ?_
  simp
theorem borders_in_ {ns ms : List Int} {p : Int} (h : p ∈ bordersL ns ms) : 0 ≤ p ∧ p ≤ ns.length := by
  obtain ⟨i, hi, rfl⟩ := List.mem_map.mp (List.mem_filter.mp h).1
  have := List.mem_range.mp hi
  omega
/-- the places of all blocks lie between -/
theorem fold_in {P : Int → Prop} : ∀ (ps : List Int) (bs : List Bk), (∀ p ∈ ps, P p) → (∀ k ∈ bs, P k.1 ∧ P k.2) → ∀ k ∈ ps.foldl addB bs, P k.1 ∧ P k.2
  | [], bs, _, hb => hb
  | p :: ps, bs, hp, hb => by
    refine fold_in ps (addB bs p) (fun q hq => hp q (List.mem_cons_of_mem _ hq)) fun k hk => ?_
    have pp := hp p List.mem_cons_self
    unfold addB at hk
    split at hk
    · rcases List.mem_append.mp hk with z | z
      · exact hb k z
      · rw [List.mem_singleton.mp z]; exact ⟨pp, pp⟩
    · rename_i l hl
      have ll := List.mem_of_getLast? hl
      split at hk
      · rcases List.mem_append.mp hk with z | z
        · exact hb k (List.dropLast_subset _ z)
        · rw [List.mem_singleton.mp z]; exact ⟨(hb l ll).1, pp⟩
      · rcases List.mem_append.mp hk with z | z
        · exact hb k z
        · rw [List.mem_singleton.mp z]; exact ⟨pp, pp⟩
theorem blocks_in {ns ms : List Int} {k : Bk} (h : k ∈ blocksL (bordersL ns ms)) : (0 ≤ k.1 ∧ k.1 ≤ ns.length) ∧ (0 ≤ k.2 ∧ k.2 ≤ ns.length) :=
  fold_in (P := fun p => 0 ≤ p ∧ p ≤ ns.length) _ [] (fun p hp => borders_in_ hp) (fun k hk => by cases hk) k h
end K31
set_option Elab.async false
set_option pp.maxSteps 1200
set_option linter.all false
set_option maxRecDepth 100000
set_option maxHeartbeats 4000000
namespace K31
open PySem L2 My
theorem decBl (a b : Bool) : decide (V.bl a = V.bl b) = decide (a = b) := by
  rw [decide_eq_decide]
  exact ⟨fun z => by injection z, fun z => by rw [z]⟩
theorem decInt (a b : Int) : decide (V.int a = V.int b) = decide (a = b) := by
  rw [decide_eq_decide]
  exact ⟨fun z => by injection z, fun z => by rw [z]⟩
theorem snoc_of {α : Type} {ks : List α} (h : ks ≠ []) : ∃ l k, ks = l ++ [k] := ⟨_, _, (List.dropLast_concat_getLast h).symm⟩
/-- a pair of ints in the heap -/
def BkR (K : PySem.W.Frag) (H : Hp) (v : V) (k : Bk) : Prop := ∃ q, v = .ref q ∧ SqT K H q [.int k.1, .int k.2]
theorem BkR.ex {K : PySem.W.Frag} {H H' : Hp} {v : V} {k : Bk} (h : BkR K H v k) (e : Ex H H') : BkR K H' v k := let ⟨q, a, b⟩ := h; ⟨q, a, Evl.ex_t e b⟩
abbrev eB : Bk → PyData := eP PyData.int PyData.int
theorem goodBk : Good eB 1 := goodP goodI goodI
theorem BkR.dp {K : PySem.W.Frag} {H : Hp} {v : V} {k : Bk} (h : BkR K H v k) : Dp K H v (eB k) := by
  obtain ⟨q, rfl, b⟩ := h
  exact .tup b (.cons (.int _) (.cons (.int _) .nil))
theorem sqT_exj {K : PySem.W.Frag} {H H' : Hp} {j q : Addr} {xs ys : List V} (e : Exj j H H') (hj : H j = some (.lst ys)) (h : SqT K H q xs) : SqT K H' q xs := by
  rcases h with (h | ⟨o, h⟩) | h
  · exact .inl (.inl (e _ _ (fun z => by rw [z, hj] at h; cases h) h))
  · exact .inl (.inr ⟨o, e _ _ (fun z => by rw [z, hj] at h; cases h) h⟩)
  · exact .inr h
theorem BkR.exj {K : PySem.W.Frag} {H H' : Hp} {j : Addr} {ys : List V} {v : V} {k : Bk} (h : BkR K H v k) (e : Exj j H H') (hj : H j = some (.lst ys)) : BkR K H' v k := let ⟨q, a, b⟩ := h; ⟨q, a, sqT_exj e hj b⟩
theorem nilD {α : Type} {e : α → PyData} {K : PySem.W.Frag} {H : Hp} {p : Addr} (h : H p = some (.lst [])) : Dp K H (.ref p) (eL e []) := .lst (sqI h) .nil
def sp_check_marks_there (K : PySem.W.Frag) : Sp := fun vs H Q _ => ∃ (a m : Addr) (ns ms : List Int), vs = [.ref a, .ref m] ∧ SqL K H a (ns.map V.int) ∧ SqL K H m (ms.map V.int) ∧ ns.length ≤ 1000 ∧ ms.Pairwise (· < ·) ∧ ms.length ≤ 1000 ∧ (∀ r ∈ ms, r ∈ ns) ∧ ∀ H', Ex H H' → Q .non H'
def sp_borders_in (K : PySem.W.Frag) : Sp := fun vs H Q _ => ∃ (a m : Addr) (ns ms : List Int), vs = [.ref a, .ref m] ∧ SqL K H a (ns.map V.int) ∧ SqL K H m (ms.map V.int) ∧ ns.length ≤ 500 ∧ New (.lst ((bordersL ns ms).map V.int)) H Q
def sp_blocks_of (K : PySem.W.Frag) : Sp := fun vs H Q _ => ∃ (a : Addr) (ps : List Int), vs = [.ref a] ∧ SqL K H a (ps.map V.int) ∧ ps.length ≤ 1000 ∧ ∀ p H' us, H p = none → Ex H H' → H' p = some (.lst us) → AllR (BkR K H') us (blocksL ps) → Q (.ref p) H'
def sp_cost_in (K : PySem.W.Frag) : Sp := fun vs H Q _ => ∃ (a m : Addr) (ns ms : List Int), vs = [.ref a, .ref m] ∧ SqL K H a (ns.map V.int) ∧ SqL K H m (ms.map V.int) ∧ ns.length ≤ 500 ∧ ∀ H', Ex H H' → Q (.int (costL ns ms)) H'
def sp_check_case (K : PySem.W.Frag) : Sp := fun vs H Q _ => ∃ (a m : Addr) (ns ms : List Int), vs = [.ref a, .ref m] ∧ SqL K H a (ns.map V.int) ∧ SqL K H m (ms.map V.int) ∧ ns.Nodup ∧ ns.length ≤ 500 ∧ ms.Pairwise (· < ·) ∧ ms.length ≤ 1000 ∧ (∀ r ∈ ms, r ∈ ns) ∧ ∀ H', Ex H H' → Q .non H'
def sp_numbers_of_covers (K : PySem.W.Frag) : Sp := fun vs H Q _ => ∃ (a : Addr) (us : List V) (ks : List Bk), vs = [.ref a] ∧ SqL K H a us ∧ AllR (BkR K H) us ks ∧ ks.length ≤ 1000 ∧ ∀ p H', H p = none → Ex H H' → H' p = some (.lst ((ks.map numB).map V.int)) → Q (.ref p) H'
def sp_count_covers (K : PySem.W.Frag) : Sp := fun vs H Q _ => ∃ (a m : Addr) (ns ms : List Int), vs = [.ref a, .ref m] ∧ SqL K H a (ns.map V.int) ∧ SqL K H m (ms.map V.int) ∧ ns.Nodup ∧ ns.length ≤ 500 ∧ ms.Pairwise (· < ·) ∧ ms.length ≤ 1000 ∧ (∀ r ∈ ms, r ∈ ns) ∧ ∀ H', Ex H H' → Q (.int (countL ns ms)) H'
section
variable {w : World} {K : PySem.W.Frag} {mg : Str → Option Value} {base : Heap}
theorem ok_check_marks_there (T : Txt K mg) : FnOk PR w K mg base (L2.CX PR w) 3 T.a_check_marks_there T.d_check_marks_there ["there", "marks"] (sp_check_marks_there K) := by
  refine T.f_check_marks_there.okX sc_check_marks_there (fun vs H Q E h => ?_) (fun cdv A outer s H vs Q E hr h => ?_)
  · obtain ⟨a, m, ns, ms, rfl, _⟩ := h
    rfl
  · obtain ⟨a, m, ns, ms, rfl, ha, hm, nl, pw, hl, sub, k⟩ := h
    refine ⟨_, (pss_one (ps_if (PW.pt (pw_or (pt_not (pt_val (pe_call (ok_are_marks T) (hr.mono (by decide)) (by rfl) T.g_are_marks T.f_are_marks.kp (b_are_marks T) .nil pass0 (pa_cons (pv 1) pa_nil)))) (pw_or1 (pt_not (pt_val (pe_callB (cr_all rfl) (by rfl) T.z_all (by decide +kernel) (pa_cons (pe_lc (own := [("row", 2)]) (g := gName 2) (by rfl) sc_check_marks_there.nd (pi_list (pv 1)) (blkOk_by (own := [("row", 2)]) (N := ["there", "marks", "row"]) (sc := (defScope s_check_marks_there)) (by decide +kernel)) (fun _ _ _ _ _ => (pg_name (i := 2) sc_check_marks_there.nd rfl (by first | exact Or.inl rfl | exact Or.inr rfl))) (fun _ _ _ _ _ => pts_nil) (fun _ _ _ _ _ => (pe_cmpR (opK (r := fun K => rIn K false) (K := K) (by rfl) op_in_seq) (pv 2) (pv 0) (by rfl)))) pa_nil))))))) (pss_one (ps_raise rfl (takes_of rfl rfl rfl rfl) (pmk_err (ok_init T) (b_init T) T.e_InvalidMarks (hr.mono (by decide)) (by rfl) T.g_InvalidMarks (pa_cons (pe_callTy call_listG (by rfl) T.z_list (by decide +kernel) (pa_cons (pv 1) pa_nil)) pa_nil)))) pss_nil)), ?_⟩
    refine ⟨_, rfl, m, ms, rfl, hm, pw, hl, fun H1 e1 => ?_⟩
    refine ⟨_, rfl, ifF rfl ?_⟩
    refine ⟨_, rfl, m, rfl, ⟨_, Evl.ex_l e1 hm⟩, fun D hD => lc_mapL (K := K) (a := m) (ys := (ms.map fun _ => true).map V.bl) (Evl.ex_l e1 hm) hD (by simp) (by rw [List.length_map]; exact Nat.le_trans hl (by decide)) (fun x => rfl) ?_ ?_⟩
    · intro i x y H' e' hx hy R kR
      obtain ⟨c, hc, rfl⟩ := mapI_get hx
      rw [List.getElem?_map, List.getElem?_map, hc] at hy
      cases hy
      refine ⟨_, rfl, _, rfl, _, _, rfl, .inl (Evl.ex_l (e1.trans e') ha), rfl, flatI _, ?_⟩
      show R (.bl (inV (V.int c) (ns.map V.int))) _
      rw [inV_int, decide_eq_true (sub c (List.mem_of_getElem? hc))]
      exact kR H' (Evl.Ex.refl _)
    intro H2 e2 d2
    refine ⟨D, _, rfl, sqI d2, ?_⟩
    have : (ms.map fun _ => true).all id = true := by simp
    rw [this]
    exact ⟨_, rfl, ifF rfl (k H2 (e1.trans e2))⟩
theorem ok_borders_in (T : Txt K mg) : FnOk PR w K mg base CX0 1 T.a_borders_in T.d_borders_in ["there", "marks"] (sp_borders_in K) := by
  refine T.f_borders_in.ok sc_borders_in (fun vs H Q E h => ?_) (fun cdv A outer s H vs Q E hr h => ?_)
  · obtain ⟨a, m, ns, ms, rfl, _⟩ := h
    rfl
  · obtain ⟨a, m, ns, ms, rfl, ha, hm, nl, k⟩ := h
    refine ⟨_, (pss_cons (ps_set (i := 2) sc_borders_in.nd rfl (by first | exact Or.inl rfl | exact Or.inr rfl) (pe_op op_catG (pe_op op_catG (pe_lstG (pa_cons pe_bl pa_nil)) (pe_lc (own := [("row", 3)]) (g := gName 3) (by rfl) sc_borders_in.nd (pi_list (pv 0)) (blkOk_by (own := [("row", 3)]) (N := ["there", "marks", "flags", "row", "place"]) (sc := (defScope s_borders_in)) (by decide +kernel)) (fun _ _ _ _ _ => (pg_name (i := 3) sc_borders_in.nd rfl (by first | exact Or.inl rfl | exact Or.inr rfl))) (fun _ _ _ _ _ => pts_nil) (fun _ _ _ _ _ => (pe_cmpR (opK (r := fun K => rIn K false) (K := K) (by rfl) op_in_seq) (pv 3) (pv 1) (by rfl))))) (pe_lstG (pa_cons pe_bl pa_nil)))) (pss_one (ps_ret (pe_lc (own := [("place", 4)]) (g := gName 4) (by rfl) sc_borders_in.nd (pi_range1 (by rfl) T.z_range (pa_cons (pe_op op_add (pe_callB call_len_seq (by rfl) T.z_len PySem.boot_len (pa_cons (pv 0) pa_nil)) pe_int) pa_nil)) (blkOk_by (own := [("place", 4)]) (N := ["there", "marks", "flags", "row", "place"]) (sc := (defScope s_borders_in)) (by decide +kernel)) (fun _ _ _ _ _ => (pg_name (i := 4) sc_borders_in.nd rfl (by first | exact Or.inl rfl | exact Or.inr rfl))) (fun _ _ _ _ _ => (pts_one (pt_cmpR op_ne (pe_ix (ixK (r := rIxL) (K := K) (by rfl) ix_list) (pv 2) (pv 4) (fun _ _ => rfl)) (pe_ix (ixK (r := rIxL) (K := K) (by rfl) ix_list) (pv 2) (pe_op op_add (pv 4) pe_int) (fun _ _ => rfl)) (nomark _)))) (fun _ _ _ _ _ => (pv 4)))))), ?_⟩
    refine ⟨(by show 1 ≤ sizeLine; decide), fun p1 H1 n1 e1 h1 => ?_⟩
    refine ⟨_, rfl, a, rfl, ⟨_, Evl.ex_l e1 ha⟩, fun D hD => lc_mapL (K := K) (a := a) (ys := (ns.map fun r => decide (r ∈ ms)).map V.bl) (Evl.ex_l e1 ha) hD (by simp) (by rw [List.length_map]; exact Nat.le_trans nl (by decide)) (fun x => rfl) ?_ ?_⟩
    · intro i x y H' e' hx hy R kR
      obtain ⟨c, hc, rfl⟩ := mapI_get hx
      rw [List.getElem?_map, List.getElem?_map, hc] at hy
      cases hy
      refine ⟨_, rfl, _, rfl, _, _, rfl, .inl (Evl.ex_l (e1.trans e') hm), rfl, flatI _, ?_⟩
      show R (.bl (inV (V.int c) (ms.map V.int))) _
      rw [inV_int]
      exact kR H' (Evl.Ex.refl _)
    intro H2 e2 d2
    have sz : ([V.bl false] ++ (ns.map fun r => decide (r ∈ ms)).map V.bl).length + 1 ≤ sizeLine := by
      rw [List.length_append, List.length_map, List.length_map]
      exact Nat.le_trans (show 1 + ns.length + 1 ≤ 502 by omega) (by decide)
    refine ⟨_, _, _, _, rfl, rfl, e2 _ _ h1, d2, Nat.le_trans (show _ ≤ 501 by rw [List.length_map, List.length_map]; show 1 + ns.length ≤ 501; omega) (by decide), fun p3 H3 n3 e3 h3 => ?_⟩
    refine ⟨(by show 1 ≤ sizeLine; decide), fun p4 H4 n4 e4 h4 => ?_⟩
    refine ⟨_, _, _, _, rfl, rfl, e4 _ _ h3, h4, sz, fun p5 H5 n5 e5 h5 => ?_⟩
    have h5 : H5 p5 = some (.lst ((flagL ns ms).map V.bl)) := by
      rw [h5]
      unfold flagL
      rw [List.map_append, List.map_append]
      rfl
    have e05 := e1.trans (e2.trans (e3.trans (e4.trans e5)))
    have fl : (flagL ns ms).length = ns.length + 2 := by simp [flagL]
    have atF : ∀ i : Nat, i < ns.length + 2 → atI ((flagL ns ms).map V.bl) ((i : Nat) : Int) = some (.bl ((flagL ns ms).getD i false)) := fun i hi => by
      refine at_of (j := i) rfl ?_
      rw [List.getElem?_map, List.getD_eq_getElem?_getD, List.getElem?_eq_getElem (by omega)]
      rfl
    refine ⟨_, rfl, _, _, rfl, .inl (Evl.ex_l e05 ha), _, _, rfl, rfl, _, rfl, (by rw [List.length_map]; omega), (by rw [List.length_map]; omega), ?_⟩
    rw [List.length_map]
    refine fun D2 hD2 => lc_filtR (p := fun p => !decide ((flagL ns ms).getD p.toNat false = (flagL ns ms).getD (p.toNat + 1) false)) hD2 (by omega) (fun x => rfl) ?_ ?_ ?_
    · intro i H' hi e' Z kZ
      have hi : i < ns.length + 1 := by omega
      have ei : ((0 : Int) + (i : Int)).toNat = i := by omega
      have e6 : (0 : Int) + (i : Int) = ((i : Nat) : Int) := by omega
      have e7 : (0 : Int) + (i : Int) + 1 = ((i + 1 : Nat) : Int) := by omega
      refine ⟨_, rfl, _, rfl, _, _, _, _, rfl, rfl, sqI (e' _ _ h5), (by rw [e6]; exact atF i (by omega)), _, rfl, _, rfl, _, _, rfl, rfl, _, _, _, _, rfl, rfl, sqI (e' _ _ h5), (by rw [e7]; exact atF (i + 1) (by omega)), rfl, _, rfl, ?_⟩
      rw [decBl]
      have := kZ H' (Evl.Ex.refl _)
      rw [ei] at this
      exact this
    · intro v H' N kN
      exact ⟨_, rfl, kN⟩
    intro H6 e6 d6
    have e6' : (((ns.length : Nat) : Int) + 1).toNat = ns.length + 1 := by omega
    rw [e6'] at d6
    exact k D2 H6 (none_of e05 hD2) (e05.trans e6) d6
theorem ok_blocks_of (T : Txt K mg) : FnOk PR w K mg base CX0 1 T.a_blocks_of T.d_blocks_of ["places"] (sp_blocks_of K) := by
  refine T.f_blocks_of.ok sc_blocks_of (fun vs H Q E h => ?_) (fun cdv A outer s H vs Q E hr h => ?_)
  · obtain ⟨a, ps, rfl, _⟩ := h
    rfl
  · obtain ⟨a, ps, rfl, ha, hl, k⟩ := h
    refine ⟨_, (pss_cons (ps_set (i := 1) sc_blocks_of.nd rfl (by first | exact Or.inl rfl | exact Or.inr rfl) (pe_lstG pa_nil)) (pss_cons (ps_for PassesOwn.never rfl (pi_list (pv 0)) (pg_name (i := 2) sc_blocks_of.nd rfl (by first | exact Or.inl rfl | exact Or.inr rfl)) (pss_one (ps_if (PW.pt (pw_and (pt_cmpR (op_neD hr.units) (pv 1) (pe_lstG pa_nil) (nomark _)) (pw_and1 (pt_cmpR op_eq (pe_ix ix_tup (pe_ix ix_list (pv 1) (pe_un un_neg pe_int) (fun _ _ => rfl)) pe_int (fun _ _ => rfl)) (pe_op op_sub (pv 2) pe_int) (nomark _))))) (pss_one (ps_asg (pe_tupG (pa_cons (pe_ix ix_tup (pe_ix ix_list (pv 1) (pe_un un_neg pe_int) (fun _ _ => rfl)) pe_int (fun _ _ => rfl)) (pa_cons (pv 2) pa_nil))) (pg_sub (pv 1) (pe_un un_neg pe_int) set_list))) (pss_one (ps_expr (pe_bm PySem.F.plainAttrs_list PySem.F.slot_list_append PySem.F.type_list_append mt_append (pv 1) (pa_cons (pe_tupG (pa_cons (pv 2) (pa_cons (pv 2) pa_nil))) pa_nil))))))) (pss_one (ps_ret (pv 1))))), ?_⟩
    refine ⟨(by show 0 ≤ sizeLine; decide), fun F H1 nF e1 hF => ?_⟩
    refine ⟨_, rfl, a, rfl, ⟨_, Evl.ex_l e1 ha⟩, for_it (walk_list (K := K) (a := a) (xs := ps.map V.int)) (fun i σ H' => ∃ (v2 : Option V) (us : List V), σ = [some (.ref a), some (.ref F), v2] ∧ Ex H H' ∧ H' F = some (.lst us) ∧ AllR (BkR K H') us (blocksL (ps.take i))) ⟨_, [], rfl, e1, hF, AllR.nil⟩ (fun i σ H' _ ⟨_, _, _, e, _⟩ => Evl.ex_l e ha) ?_ ?_⟩
    · rintro i v σ HX H2 hi ⟨v2, us, rfl, e2, f2, a2⟩ ⟨rfl, hv⟩
      obtain ⟨b, hb, rfl⟩ := mapI_get hv
      have ul := a2.1
      have bl := blocks_len (ps.take i)
      have tl : (ps.take i).length ≤ i := by rw [List.length_take]; exact Nat.min_le_left _ _
      have hi' : i < ps.length := by simpa using hi
      have tk : blocksL (ps.take (i + 1)) = addB (blocksL (ps.take i)) b := by
        unfold blocksL
        rw [take_snoc hb, List.foldl_append]
        rfl
      have app : addB (blocksL (ps.take i)) b = blocksL (ps.take i) ++ [(b, b)] → ∀ {H3 : Hp}, Ex H2 H3 → H3 F = some (.lst us) ∧ us.length < sizeLine ∧ ∀ (p : Addr), H3 p = some (.tup [.int b, .int b]) → p ≠ F → ∃ (v2 : Option V) (us' : List V), [some (V.ref a), some (.ref F), some (.int b)] = [some (V.ref a), some (.ref F), v2] ∧ Ex H (upd H3 F (.lst (us ++ [.ref p]))) ∧ upd H3 F (.lst (us ++ [.ref p])) F = some (.lst us') ∧ AllR (BkR K (upd H3 F (.lst (us ++ [.ref p])))) us' (blocksL (ps.take (i + 1))) := fun ea H3 e3 => by
        refine ⟨e3 _ _ f2, Nat.lt_of_le_of_lt (show us.length ≤ 2000 by omega) (by decide), fun p hp np => ?_⟩
        have ej : Exj F H2 (upd H3 F (.lst (us ++ [.ref p]))) := (Exj.of e3).upd
        refine ⟨_, us ++ [.ref p], rfl, Evl.Ex.mut (e2.trans e3) nF, upd_same, ?_⟩
        rw [tk, ea]
        exact AllR.snoc (a2.mono fun v x r => r.exj ej f2) ⟨p, rfl, sqT (by rw [upd_ne np]; exact hp)⟩
      refine ⟨_, rfl, (by show 0 ≤ sizeLine; decide), fun p3 H3 n3 e3 h3 => ?_⟩
      have dF : Dp K H3 (.ref F) (eL eB (blocksL (ps.take i))) := .lst (sqI (e3 _ _ f2)) ((a2.mono fun v x r => r.ex e3).dp fun v x r => r.dp)
      refine neE (goodL goodBk) (by decide) (x := blocksL (ps.take i)) (y := []) dF (nilD h3) ⟨_, rfl, ?_⟩
      refine ifB (fun c => ?_) (fun c => ?_)
      · have ne : blocksL (ps.take i) ≠ [] := by simpa using c
        obtain ⟨l, kk, el⟩ := snoc_of ne
        rw [el] at a2 ul
        obtain ⟨us0, u, rfl⟩ : ∃ us0 u, us = us0 ++ [u] := snoc_of (fun z => by rw [z] at ul; simp at ul)
        have ul0 : us0.length = l.length := by simpa using ul
        obtain ⟨q, rfl, hq⟩ := a2.2 l.length u kk (by rw [← ul0]; simp) (by simp)
        have f3 := e3 _ _ f2
        have al : atI (us0 ++ [V.ref q]) (-1) = some (.ref q) := atI_last _ _
        refine ⟨_, rfl, _, rfl, _, _, _, _, rfl, rfl, sqI f3, al, _, _, _, _, rfl, rfl, Evl.ex_t e3 hq, at1, _, rfl, _, _, rfl, rfl, rfl, _, rfl, ?_⟩
        rw [decInt]
        refine ifB (fun c2 => ?_) (fun c2 => ?_)
        · have c2 : kk.2 = b - 1 := of_decide_eq_true c2
          have ea : addB (blocksL (ps.take i)) b = l ++ [(kk.1, b)] := by rw [el, addB_snoc, if_pos c2]
          refine ⟨_, rfl, _, rfl, _, _, _, _, rfl, rfl, sqI f3, al, _, _, _, _, rfl, rfl, Evl.ex_t e3 hq, at0, _, rfl, (by show 2 ≤ sizeLine; decide), fun p4 H4 n4 e4 h4 => ?_⟩
          have f4 := e4 _ _ f3
          have n4F : p4 ≠ F := (ne_of_none f3 n4).symm
          have ix : ixN (us0 ++ [V.ref q]).length (-1) = some us0.length := by
            rw [List.length_append]
            show ixN (us0.length + 1) (-1) = _
            unfold ixN
            simp
            omega
          refine ⟨_, rfl, _, rfl, _, _, _, _, rfl, rfl, f4, ix, ?_⟩
          have es : (us0 ++ [V.ref q]).set us0.length (.ref p4) = us0 ++ [.ref p4] := by simp
          rw [es]
          have ej : Exj F H2 (upd H4 F (.lst (us0 ++ [.ref p4]))) := (Exj.of (e3.trans e4)).upd
          refine ⟨_, us0 ++ [.ref p4], rfl, Evl.Ex.mut (e2.trans (e3.trans e4)) nF, upd_same, ?_⟩
          rw [tk, ea]
          have a0 : AllR (BkR K H2) us0 l := ⟨ul0, fun i' v x h1 h2 => a2.2 i' v x (by rw [List.getElem?_append_left (List.getElem?_eq_some_iff.mp h1).1]; exact h1) (by rw [List.getElem?_append_left (List.getElem?_eq_some_iff.mp h2).1]; exact h2)⟩
          exact AllR.snoc (a0.mono fun v x r => r.exj ej f2) ⟨p4, rfl, sqT (by rw [upd_ne n4F]; exact h4)⟩
        · have c2 : ¬ kk.2 = b - 1 := of_decide_eq_false c2
          have ea : addB (blocksL (ps.take i)) b = blocksL (ps.take i) ++ [(b, b)] := by rw [el, addB_snoc, if_neg c2]
          refine ⟨_, rfl, .inl ⟨rfl, _, sqI f3⟩, _, rfl, _, rfl, (by show 2 ≤ sizeLine; decide), fun p4 H4 n4 e4 h4 => ?_⟩
          obtain ⟨g1, g2, g3⟩ := app ea (e3.trans e4)
          exact ⟨_, _, _, rfl, rfl, g1, g2, g3 p4 h4 (ne_of_none f3 n4).symm⟩
      · have e : blocksL (ps.take i) = [] := by simpa using c
        have ea : addB (blocksL (ps.take i)) b = blocksL (ps.take i) ++ [(b, b)] := by rw [e]; rfl
        have f3 := e3 _ _ f2
        refine ⟨_, rfl, .inl ⟨rfl, _, sqI f3⟩, _, rfl, _, rfl, (by show 2 ≤ sizeLine; decide), fun p4 H4 n4 e4 h4 => ?_⟩
        obtain ⟨g1, g2, g3⟩ := app ea (e3.trans e4)
        exact ⟨_, _, _, rfl, rfl, g1, g2, g3 p4 h4 (ne_of_none f3 n4).symm⟩
    · rintro σ H2 ⟨v2, us, rfl, e2, f2, a2⟩
      rw [List.length_map, List.take_length] at a2
      exact ⟨_, rfl, k F H2 us nF e2 f2 a2⟩
theorem ok_cost_in (T : Txt K mg) : FnOk PR w K mg base CX0 2 T.a_cost_in T.d_cost_in ["there", "marks"] (sp_cost_in K) := by
  refine T.f_cost_in.ok sc_cost_in (fun vs H Q E h => ?_) (fun cdv A outer s H vs Q E hr h => ?_)
  · obtain ⟨a, m, ns, ms, rfl, _⟩ := h
    rfl
  · obtain ⟨a, m, ns, ms, rfl, ha, hm, nl, k⟩ := h
    refine ⟨_, (pss_one (ps_ret (pe_callB (cr_sum rfl) (by rfl) T.z_sum (by decide +kernel) (pa_cons (pe_lc (own := [("first", 2), ("last", 3)]) (g := (gTup K 2 (gCons (gName 2) (gCons (gName 3) gNil)))) (by rfl) sc_cost_in.nd (pi_list (pe_call (ok_blocks_of T) (hr.mono (by decide)) (by rfl) T.g_blocks_of T.f_blocks_of.kp (b_blocks_of T) .nil pass0 (pa_cons (pe_call (ok_borders_in T) (hr.mono (by decide)) (by rfl) T.g_borders_in T.f_borders_in.kp (b_borders_in T) .nil pass0 (pa_cons (pv 0) (pa_cons (pv 1) pa_nil))) pa_nil))) (blkOk_by (own := [("first", 2), ("last", 3)]) (N := ["there", "marks", "first", "last"]) (sc := (defScope s_cost_in)) (by decide +kernel)) (fun _ _ _ _ _ => (pg_tup rfl (pgs_cons (pg_name (i := 2) sc_cost_in.nd rfl (by first | exact Or.inl rfl | exact Or.inr rfl)) (pgs_cons (pg_name (i := 3) sc_cost_in.nd rfl (by first | exact Or.inl rfl | exact Or.inr rfl)) pgs_nil)))) (fun _ _ _ _ _ => pts_nil) (fun _ _ _ _ _ => (pe_op op_fdivW (pe_op op_add (pe_op op_sub (pv 3) (pv 2)) pe_int) pe_int))) pa_nil)))), ?_⟩
    have bl := borders_len ns ms
    have kl := blocks_len (bordersL ns ms)
    refine ⟨_, rfl, _, rfl, a, m, ns, ms, rfl, ha, hm, nl, fun p1 H1 n1 e1 h1 => ?_⟩
    refine ⟨p1, bordersL ns ms, rfl, sqI h1, by omega, fun p2 H2 us n2 e2 h2 a2 => ?_⟩
    refine ⟨p2, rfl, ⟨_, sqI h2⟩, fun D hD => lc_mapG (K := K) (a := p2) (ys := ((blocksL (bordersL ns ms)).map costB).map V.int) (sqI h2) hD (by rw [List.length_map, List.length_map]; exact a2.1.symm) (by rw [a2.1]; exact Nat.le_trans (show _ ≤ 600 by omega) (by decide)) ?_ ?_⟩
    · intro i x y H' e' hx hy N Z kN
      obtain ⟨kk, hki, q, rfl, hq⟩ := AllR.get a2 hx
      rw [List.getElem?_map, List.getElem?_map, hki] at hy
      cases hy
      refine ⟨_, _, rfl, Evl.ex_t e' hq, rfl, _, _, rfl, _, _, rfl, rfl, rfl, ?_⟩
      show _
      exact ⟨_, rfl, _, rfl, _, _, rfl, rfl, _, _, rfl, rfl, _, _, rfl, rfl, wide_div (b := 20) (by decide) (by decide) (by decide) (by decide), kN H' (Evl.Ex.refl _)⟩
    intro H3 e3 d3
    exact ⟨D, _, rfl, sqI d3, k H3 (e1.trans (e2.trans e3))⟩
theorem ok_check_case (T : Txt K mg) : FnOk PR w K mg base (L2.CX PR w) 4 T.a_check_case T.d_check_case ["there", "marks"] (sp_check_case K) := by
  refine T.f_check_case.okX sc_check_case (fun vs H Q E h => ?_) (fun cdv A outer s H vs Q E hr h => ?_)
  · obtain ⟨a, m, ns, ms, rfl, _⟩ := h
    rfl
  · obtain ⟨a, m, ns, ms, rfl, ha, hm, nd, nl, pw, ml, sub, k⟩ := h
    refine ⟨_, (pss_cons (ps_expr (pe_call (ok_check_there T) (hr.mono (by decide)) (by rfl) T.g_check_there T.f_check_there.kp (b_check_there T) .nil passX (pa_cons (pv 0) pa_nil))) (pss_one (ps_expr (pe_call (ok_check_marks_there T) (hr.mono (by decide)) (by rfl) T.g_check_marks_there T.f_check_marks_there.kp (b_check_marks_there T) .nil passX (pa_cons (pv 0) (pa_cons (pv 1) pa_nil)))))), ?_⟩
    refine ⟨_, rfl, a, ns, rfl, ha, nd, by omega, ?_⟩
    exact ⟨_, rfl, _, rfl, a, m, ns, ms, rfl, ha, hm, by omega, pw, ml, sub, fun H1 e1 => k H1 e1⟩
theorem ok_numbers_of_covers (T : Txt K mg) : FnOk PR w K mg base CX0 1 T.a_numbers_of_covers T.d_numbers_of_covers ["blocks"] (sp_numbers_of_covers K) := by
  refine T.f_numbers_of_covers.ok sc_numbers_of_covers (fun vs H Q E h => ?_) (fun cdv A outer s H vs Q E hr h => ?_)
  · obtain ⟨a, us, ks, rfl, _⟩ := h
    rfl
  · obtain ⟨a, us, ks, rfl, ha, hk, hl, k⟩ := h
    refine ⟨_, (pss_cons (ps_set (i := 1) sc_numbers_of_covers.nd rfl (by first | exact Or.inl rfl | exact Or.inr rfl) (pe_lstG pa_nil)) (pss_cons (ps_for PassesOwn.never rfl (pi_list (pv 0)) (pg_tup rfl (pgs_cons (pg_name (i := 2) sc_numbers_of_covers.nd rfl (by first | exact Or.inl rfl | exact Or.inr rfl)) (pgs_cons (pg_name (i := 3) sc_numbers_of_covers.nd rfl (by first | exact Or.inl rfl | exact Or.inr rfl)) pgs_nil))) (pss_cons (ps_set (i := 4) sc_numbers_of_covers.nd rfl (by first | exact Or.inl rfl | exact Or.inr rfl) (pe_op op_add (pe_op op_sub (pv 3) (pv 2)) pe_int)) (pss_one (ps_expr (pe_bm PySem.F.plainAttrs_list PySem.F.slot_list_append PySem.F.type_list_append mt_append (pv 1) (pa_cons (pe_cut (pe_ifExp (pt_cmpR op_eq (pe_op op_mod (pv 4) pe_int) pe_int (nomark _)) (pe_op op_add (pe_op op_fdivW (pv 4) pe_int) pe_int) pe_int)) pa_nil)))))) (pss_one (ps_ret (pv 1))))), ?_⟩
    have ul := hk.1
    refine ⟨(by show 0 ≤ sizeLine; decide), fun F H1 nF e1 hF => ?_⟩
    refine ⟨_, rfl, a, rfl, ⟨_, Evl.ex_l e1 ha⟩, for_it (walk_list (K := K) (a := a) (xs := us)) (fun i σ H' => ∃ (v2 v3 v4 : Option V), σ = [some (.ref a), some (.ref F), v2, v3, v4] ∧ Ex H H' ∧ H' F = some (.lst (((ks.take i).map numB).map V.int))) ⟨_, _, _, rfl, e1, hF⟩ (fun i σ H' _ ⟨_, _, _, _, e, _⟩ => Evl.ex_l e ha) ?_ ?_⟩
    · rintro i v σ HX H2 hi ⟨v2, v3, v4, rfl, e2, f2⟩ ⟨rfl, hv⟩
      obtain ⟨kk, hki, q, rfl, hq⟩ := AllR.get hk hv
      refine ⟨_, _, rfl, Evl.ex_t e2 hq, rfl, _, _, rfl, _, _, rfl, rfl, ?_⟩
      refine ⟨_, rfl, _, rfl, _, _, rfl, rfl, _, _, rfl, rfl, ?_⟩
      have fin : H2 F = some (.lst (((ks.take i).map numB).map V.int)) ∧ (((ks.take i).map numB).map V.int).length < sizeLine := ⟨f2, by
        rw [List.length_map, List.length_map, List.length_take]
        exact Nat.lt_of_le_of_lt (show _ ≤ 1000 by omega) (by decide)⟩
      have nb : numB kk = if (kk.2 - kk.1 + 1) % 2 = 1 then (kk.2 - kk.1 + 1) / 2 + 1 else 1 := rfl
      have done : ∀ z : Int, z = numB kk → Ex H (upd H2 F (.lst (((ks.take i).map numB).map V.int ++ [.int z]))) ∧ upd H2 F (.lst (((ks.take i).map numB).map V.int ++ [.int z])) F = some (.lst (((ks.take (i + 1)).map numB).map V.int)) := fun z hz => ⟨Evl.Ex.mut e2 nF, by
        rw [upd_same, take_snoc hki, List.map_append, List.map_append, hz]
        rfl⟩
      refine ⟨_, rfl, .inl ⟨rfl, _, sqI f2⟩, fun v H' => v = .int (numB kk) ∧ H' = H2, ?_, ?_⟩
      · refine ⟨_, rfl, _, _, rfl, rfl, (show (0 : Int) < 2 by decide), rfl, _, rfl, ?_⟩
        rw [decInt]
        refine ifB (fun c => ?_) (fun c => ?_)
        · have c := of_decide_eq_true c
          refine ⟨_, rfl, _, _, rfl, rfl, wide_div (b := 20) (by decide) (by decide) (by decide) (by decide), _, _, rfl, rfl, ?_, rfl⟩
          rw [nb, if_pos c]
        · have c := of_decide_eq_false c
          refine ⟨?_, rfl⟩
          rw [nb, if_neg c]
      · rintro v H' ⟨rfl, rfl⟩
        obtain ⟨g1, g2⟩ := done _ rfl
        exact ⟨_, _, _, rfl, rfl, fin.1, fin.2, _, _, _, rfl, g1, g2⟩
    · rintro σ H2 ⟨v2, v3, v4, rfl, e2, f2⟩
      rw [ul, List.take_length] at f2
      exact ⟨_, rfl, k F H2 nF e2 f2⟩
end
end K31
set_option Elab.async false
set_option pp.maxSteps 1200
set_option linter.all false
set_option maxRecDepth 100000
set_option maxHeartbeats 4000000
namespace K31
open PySem L2 My
/-! covers of the borders by clicks -/
theorem blocks_le (ps : List Int) : ∀ k ∈ blocksL ps, k.1 ≤ k.2 := by
  have go : ∀ (ps : List Int) (bs : List Bk), (∀ k ∈ bs, k.1 ≤ k.2) → ∀ k ∈ ps.foldl addB bs, k.1 ≤ k.2 := fun ps => by
    induction ps with
    | nil => intro bs h; exact h
    | cons p ps ih =>
      intro bs hb
      refine ih (addB bs p) fun k hk => ?_
      unfold addB at hk
      split at hk
      · rcases List.mem_append.mp hk with z | z
        · exact hb k z
        · rw [List.mem_singleton.mp z]; exact Int.le_refl _
      · rename_i l hl
        have ll := hb l (List.mem_of_getLast? hl)
        split at hk
        · rename_i c
          rcases List.mem_append.mp hk with z | z
          · exact hb k (List.dropLast_subset _ z)
          · rw [List.mem_singleton.mp z]
            show l.1 ≤ p
            omega
        · rcases List.mem_append.mp hk with z | z
          · exact hb k z
          · rw [List.mem_singleton.mp z]; exact Int.le_refl _
  exact go ps [] (fun k hk => by cases hk)
theorem numB_pos {k : Bk} (h : k.1 ≤ k.2) : 1 ≤ numB k := by
  unfold numB
  split <;> omega
theorem numB_le {k : Bk} (h : k.1 ≤ k.2) : numB k ≤ k.2 - k.1 + 2 := by
  unfold numB
  split <;> omega
def coverGo (k : Bk) (c : Int) : Nat → Int → List (List Int)
  | 0, _ => []
  | n + 1, b => if b ≤ k.2 then (if (k.2 - k.1) % 2 = 0 ∧ b = k.1 + 2 * c then [b] :: coverGo k c n (b + 1) else [b, b + 1] :: coverGo k c n (b + 2)) else []
def coverB (k : Bk) (c : Int) : List (List Int) := coverGo k c (k.2 - k.1 + 1).toNat k.1
theorem coverGo_len (k : Bk) (c : Int) : ∀ n b, (coverGo k c n b).length ≤ n
  | 0, _ => Nat.le_refl _
  | n + 1, b => by
    unfold coverGo
    have h1 := coverGo_len k c n (b + 1)
    have h2 := coverGo_len k c n (b + 2)
    split
    · split
      · rw [List.length_cons]; omega
      · rw [List.length_cons]; omega
    · exact Nat.zero_le _
def chG : List Int → Int → List Int
  | [], _ => []
  | n :: r, i => (i % n) :: chG r (i / n)
theorem chG_len : ∀ (l : List Int) (i : Int), (chG l i).length = l.length
  | [], _ => rfl
  | n :: r, i => by rw [chG, List.length_cons, List.length_cons, chG_len r]
theorem chG_bound : ∀ (l : List Int) (i : Int), (∀ n ∈ l, 1 ≤ n ∧ n ≤ 502) → ∀ c ∈ chG l i, 0 ≤ c ∧ c ≤ 502
  | [], _, _, c, hc => by cases hc
  | n :: r, i, h, c, hc => by
    obtain ⟨h1, h2⟩ := h n List.mem_cons_self
    rcases List.mem_cons.mp hc with z | z
    · rw [z]
      have := Int.emod_nonneg i (show n ≠ 0 by omega)
      have := Int.emod_lt_of_pos i (show 0 < n by omega)
      omega
    · exact chG_bound r (i / n) (fun m hm => h m (List.mem_cons_of_mem _ hm)) c z
theorem coverB_len {k : Bk} {c : Int} (h : k.2 - k.1 ≤ 500) : (coverB k c).length ≤ 501 := by
  have := coverGo_len k c (k.2 - k.1 + 1).toNat k.1
  unfold coverB
  omega
def restG : List Int → Int → Int
  | [], i => i
  | n :: r, i => restG r (i / n)
theorem chG_take : ∀ (l : List Int) (i : Int) (j : Nat) (n : Int), l[j]? = some n → chG (l.take (j + 1)) i = chG (l.take j) i ++ [restG (l.take j) i % n] ∧ restG (l.take (j + 1)) i = restG (l.take j) i / n
  | [], _, j, n, h => by cases j <;> cases h
  | a :: l, i, 0, n, h => by
    cases h
    exact ⟨rfl, rfl⟩
  | a :: l, i, j + 1, n, h => by
    have h : l[j]? = some n := h
    obtain ⟨h1, h2⟩ := chG_take l (i / a) j n h
    refine ⟨?_, ?_⟩
    · show (i % a) :: chG (l.take (j + 1)) (i / a) = (i % a) :: (chG (l.take j) (i / a) ++ [restG (l.take j) (i / a) % n])
      rw [h1]
    · exact h2
def coverL (bs : List Bk) (index : Int) : List (List Int) := (bs.zip (chG (bs.map numB).reverse index).reverse).flatMap fun kc => coverB kc.1 kc.2
def singlesL (cover : List (List Int)) : List Int := (cover.filter fun t => decide (t.length = 1)).map fun t => t.getD 0 0
def pairsL : List Int → List (Str × Int)
  | a :: b :: r => ("click", a) :: ("range", b - 1) :: pairsL r
  | _ => []
def clicksL (cover : List (List Int)) : List (Str × Int) := pairsL (singlesL cover) ++ (cover.filter fun t => decide (t.length = 2)).map fun t => (("click" : Str), t.getD 0 0)
end K31
namespace K31
open PySem L2 My
theorem pairs_snoc : ∀ (l : List Int) (a b : Int), l.length % 2 = 0 → pairsL (l ++ [a, b]) = pairsL l ++ [(("click" : Str), a), (("range" : Str), b - 1)]
  | [], _, _, _ => rfl
  | [x], _, _, h => by simp at h
  | x :: y :: l, a, b, h => by
    have ih := pairs_snoc l a b (by simp only [List.length_cons] at h; omega)
    show ((("click" : Str), x) :: (("range" : Str), y - 1) :: pairsL (l ++ [a, b])) = (("click" : Str), x) :: (("range" : Str), y - 1) :: (pairsL l ++ [(("click" : Str), a), (("range" : Str), b - 1)])
    rw [ih]
theorem pairs_take {s : List Int} {i : Nat} (h : 2 * i + 1 < s.length) : pairsL (s.take (2 * (i + 1))) = pairsL (s.take (2 * i)) ++ [(("click" : Str), s.getD (2 * i) 0), (("range" : Str), s.getD (2 * i + 1) 0 - 1)] := by
  have e : s.take (2 * (i + 1)) = s.take (2 * i) ++ [s.getD (2 * i) 0, s.getD (2 * i + 1) 0] := by
    have h1 : s[2 * i]? = some (s.getD (2 * i) 0) := by rw [List.getD_eq_getElem?_getD, List.getElem?_eq_getElem (by omega)]; rfl
    have h2 : s[2 * i + 1]? = some (s.getD (2 * i + 1) 0) := by rw [List.getD_eq_getElem?_getD, List.getElem?_eq_getElem (by omega)]; rfl
    rw [show 2 * (i + 1) = 2 * i + 1 + 1 by omega, take_snoc h2, take_snoc h1, List.append_assoc]
    rfl
  rw [e, pairs_snoc]
  rw [List.length_take]
  omega
theorem pairs_len : ∀ l : List Int, (pairsL l).length ≤ l.length
  | [] => Nat.le_refl _
  | [x] => Nat.zero_le _
  | x :: y :: l => by
    have := pairs_len l
    show (pairsL l).length + 1 + 1 ≤ l.length + 1 + 1
    omega
theorem singles_len (c : List (List Int)) : (singlesL c).length ≤ c.length := by
  unfold singlesL
  rw [List.length_map]
  exact List.length_filter_le _ _
theorem rg_two {n : Nat} (h : n ≤ 1000000) (e : n % 2 = 0) : RgC 0 (n : Int) 2 (n / 2) := by
  have rs : Builtin.Range.rangeSize 0 (n : Int) 2 = ((n / 2 : Nat) : Int) := by
    rw [PyProof.Rows.rangeSize_pos (by decide) (by omega)]
    omega
  refine ⟨by decide, by decide, ?_, rs⟩
  unfold Builtin.Range.small
  rw [rs]
  have fit : ∀ x : Int, -2000000 ≤ x → x ≤ 2000000 → Builtin.Range.rangeFitsLong x = true := fun x h1 h2 => by
    unfold Builtin.Range.rangeFitsLong
    rw [Bool.and_eq_true, decide_eq_true_eq, decide_eq_true_eq]
    omega
  show (Builtin.Range.rangeFitsLong 0 && Builtin.Range.rangeFitsLong (n : Int) && Builtin.Range.rangeFitsLong 2 && _ && _) = true
  rw [fit 0 (by decide) (by decide), fit n (by omega) (by omega), fit 2 (by decide) (by decide), fit ((n / 2 : Nat) : Int) (by omega) (by omega), if_pos (by decide), fit ((n : Int) + (2 - 1)) (by omega) (by omega)]
  simp
end K31
set_option Elab.async false
set_option pp.maxSteps 1200
set_option linter.all false
set_option maxRecDepth 100000
set_option maxHeartbeats 4000000
namespace K31
open PySem L2 My
/-- a token in the heap -/
def TkR (K : PySem.W.Frag) (H : Hp) (v : V) (t : List Int) : Prop := ∃ q, v = .ref q ∧ SqT K H q (t.map V.int)
theorem TkR.ex {K : PySem.W.Frag} {H H' : Hp} {v : V} {t : List Int} (h : TkR K H v t) (e : Ex H H') : TkR K H' v t := let ⟨q, a, b⟩ := h; ⟨q, a, Evl.ex_t e b⟩
theorem TkR.exj {K : PySem.W.Frag} {H H' : Hp} {j : Addr} {ys : List V} {v : V} {t : List Int} (h : TkR K H v t) (e : Exj j H H') (hj : H j = some (.lst ys)) : TkR K H' v t := let ⟨q, a, b⟩ := h; ⟨q, a, sqT_exj e hj b⟩
theorem st_eq {P : L2.St → Prop} {σ σ' : L2.St} (e : σ = σ') (h : P σ') : P σ := e ▸ h
def sp_block_cover (K : PySem.W.Frag) : Sp := fun vs H Q _ => ∃ (q : Addr) (k : Bk) (c : Int), vs = [.ref q, .int c] ∧ SqT K H q [.int k.1, .int k.2] ∧ k.2 - k.1 ≤ 1000 ∧ 0 ≤ c ∧ c ≤ 1000 ∧ ∀ p H' us, H p = none → Ex H H' → H' p = some (.lst us) → AllR (TkR K H') us (coverB k c) → Q (.ref p) H'
def sp_cover_in (K : PySem.W.Frag) : Sp := fun vs H Q _ => ∃ (a m : Addr) (ns ms : List Int) (ix : Int), vs = [.ref a, .ref m, .int ix] ∧ SqL K H a (ns.map V.int) ∧ SqL K H m (ms.map V.int) ∧ ns.length ≤ 400 ∧ 0 ≤ ix ∧ ∀ p H' us, H p = none → Ex H H' → H' p = some (.lst us) → AllR (TkR K H') us (coverL (blocksL (bordersL ns ms)) ix) → Q (.ref p) H'
section
variable {w : World} {K : PySem.W.Frag} {mg : Str → Option Value} {base : Heap}
theorem ok_count_covers (T : Txt K mg) : FnOk PR w K mg base (L2.CX PR w) 5 T.a_count_covers T.d_count_covers ["there", "marks"] (sp_count_covers K) := by
  refine T.f_count_covers.okX sc_count_covers (fun vs H Q E h => ?_) (fun cdv A outer s H vs Q E hr h => ?_)
  · obtain ⟨a, m, ns, ms, rfl, _⟩ := h
    rfl
  · obtain ⟨a, m, ns, ms, rfl, ha, hm, nd, nl, pw, ml, sub, k⟩ := h
    refine ⟨_, (pss_cons (ps_expr (pe_call (ok_check_case T) (hr.mono (by decide)) (by rfl) T.g_check_case T.f_check_case.kp (b_check_case T) .nil passX (pa_cons (pv 0) (pa_cons (pv 1) pa_nil)))) (pss_cons (ps_set (i := 2) sc_count_covers.nd rfl (by first | exact Or.inl rfl | exact Or.inr rfl) pe_int) (pss_cons (ps_for (passes_of rfl) rfl (pi_list (pe_call (ok_numbers_of_covers T) (hr.mono (by decide)) (by rfl) T.g_numbers_of_covers T.f_numbers_of_covers.kp (b_numbers_of_covers T) .nil pass0 (pa_cons (pe_call (ok_blocks_of T) (hr.mono (by decide)) (by rfl) T.g_blocks_of T.f_blocks_of.kp (b_blocks_of T) .nil pass0 (pa_cons (pe_call (ok_borders_in T) (hr.mono (by decide)) (by rfl) T.g_borders_in T.f_borders_in.kp (b_borders_in T) .nil pass0 (pa_cons (pv 0) (pa_cons (pv 1) pa_nil))) pa_nil)) pa_nil))) (pg_name (i := 3) sc_count_covers.nd rfl (by first | exact Or.inl rfl | exact Or.inr rfl)) (pss_one (ps_set (i := 2) sc_count_covers.nd rfl (by first | exact Or.inl rfl | exact Or.inr rfl) (pe_op op_mulW (pv 2) (pv 3))))) (pss_one (ps_ret (pv 2)))))), ?_⟩
    have bl := borders_len ns ms
    have kl := blocks_len (bordersL ns ms)
    refine ⟨_, rfl, _, rfl, a, m, ns, ms, rfl, ha, hm, nd, nl, pw, ml, sub, fun H1 e1 => ?_⟩
    refine ⟨_, rfl, _, rfl, a, m, ns, ms, rfl, Evl.ex_l e1 ha, Evl.ex_l e1 hm, nl, fun p2 H2 n2 e2 h2 => ?_⟩
    refine ⟨p2, bordersL ns ms, rfl, sqI h2, by omega, fun p3 H3 us n3 e3 h3 a3 => ?_⟩
    refine ⟨p3, us, blocksL (bordersL ns ms), rfl, sqI h3, a3, by omega, fun p4 H4 n4 e4 h4 => ?_⟩
    have nb : ∀ (l : List Int) (z : Int) (b : Nat), (∀ x ∈ l, x.natAbs < 2 ^ 10) → z.natAbs < 2 ^ b → (l.foldl (· * ·) z).natAbs < 2 ^ (b + 10 * l.length) := fun l => by
      induction l with
      | nil => intro z b _ h; exact h
      | cons x l ih =>
        intro z b hx hz
        have := ih (z * x) (b + 10) (fun y hy => hx y (List.mem_cons_of_mem _ hy)) (wide_lt hz (hx x List.mem_cons_self))
        rw [List.foldl_cons, List.length_cons, show b + 10 * (l.length + 1) = b + 10 + 10 * l.length by omega]
        exact this
    have small : ∀ x ∈ (blocksL (bordersL ns ms)).map numB, x.natAbs < 2 ^ 10 := fun x hx => by
      obtain ⟨kk, hk, rfl⟩ := List.mem_map.mp hx
      have h1 := blocks_le _ kk hk
      have h2 := numB_pos h1
      have h3 := numB_le h1
      have h4 := blocks_in hk
      omega
    refine ⟨p4, rfl, ⟨_, sqI h4⟩, for_it (walk_list (K := K) (a := p4) (xs := ((blocksL (bordersL ns ms)).map numB).map V.int)) (fun i σ H' => ∃ (v3 : Option V), σ = [some (.ref a), some (.ref m), some (.int ((((blocksL (bordersL ns ms)).map numB).take i).foldl (· * ·) 1)), v3] ∧ Ex H4 H') ⟨_, rfl, Evl.Ex.refl _⟩ (fun i σ H' _ ⟨_, _, e⟩ => sqI (e _ _ h4)) ?_ ?_⟩
    · rintro i v σ HX H5 hi ⟨v3, rfl, e5⟩ ⟨rfl, hv⟩
      obtain ⟨x, hx, rfl⟩ := mapI_get hv
      have b1 := nb (((blocksL (bordersL ns ms)).map numB).take i) 1 1 (fun y hy => small y (List.mem_of_mem_take hy)) (by decide)
      have tl : (((blocksL (bordersL ns ms)).map numB).take i).length ≤ 600 := by rw [List.length_take, List.length_map]; omega
      refine ⟨_, rfl, _, rfl, _, _, rfl, rfl, wide_mul b1 (small x (List.mem_of_getElem? hx)) (by omega) (by decide) (by omega), ?_⟩
      refine ⟨some (.int x), ?_, e5⟩
      rw [take_snoc hx, List.foldl_append]
      rfl
    · rintro σ H5 ⟨v3, rfl, e5⟩
      refine ⟨_, rfl, ?_⟩
      rw [List.length_map, List.take_length]
      exact k H5 (e1.trans (e2.trans (e3.trans (e4.trans e5))))
theorem ok_block_cover (T : Txt K mg) : FnOk PR w K mg base CX0 1 T.a_block_cover T.d_block_cover ["block", "choice"] (sp_block_cover K) := by
  refine T.f_block_cover.ok sc_block_cover (fun vs H Q E h => ?_) (fun cdv A outer s H vs Q E hr h => ?_)
  · obtain ⟨q, kk, c, rfl, _⟩ := h
    rfl
  · obtain ⟨q, kk, c, rfl, hq, kl, c0, c1, k⟩ := h
    refine ⟨_, (pss_cons (ps_asg (pv 0) (pg_tup rfl (pgs_cons (pg_name (i := 2) sc_block_cover.nd rfl (by first | exact Or.inl rfl | exact Or.inr rfl)) (pgs_cons (pg_name (i := 3) sc_block_cover.nd rfl (by first | exact Or.inl rfl | exact Or.inr rfl)) pgs_nil)))) (pss_cons (ps_set (i := 4) sc_block_cover.nd rfl (by first | exact Or.inl rfl | exact Or.inr rfl) (pe_lstG pa_nil)) (pss_cons (ps_set (i := 5) sc_block_cover.nd rfl (by first | exact Or.inl rfl | exact Or.inr rfl) (pv 2)) (pss_cons (ps_while PassesOwn.never (pt_cmpR op_le (pv 5) (pv 3) (nomark _)) (pss_one (ps_if (PW.pt (pw_and (pt_cmpR op_eq (pe_op op_mod (pe_op op_sub (pv 3) (pv 2)) pe_int) pe_int (nomark _)) (pw_and1 (pt_cmpR op_eq (pv 5) (pe_op op_add (pv 2) (pe_op op_mulW pe_int (pv 1))) (nomark _))))) (pss_cons (ps_expr (pe_bm PySem.F.plainAttrs_list PySem.F.slot_list_append PySem.F.type_list_append mt_append (pv 4) (pa_cons (pe_tupG (pa_cons (pv 5) pa_nil)) pa_nil))) (pss_one (ps_aug (i := 5) sc_block_cover.nd rfl (by first | exact Or.inl rfl | exact Or.inr rfl) pe_int ip_add (by first | exact Or.inl rfl | exact Or.inr rfl)))) (pss_cons (ps_expr (pe_bm PySem.F.plainAttrs_list PySem.F.slot_list_append PySem.F.type_list_append mt_append (pv 4) (pa_cons (pe_tupG (pa_cons (pv 5) (pa_cons (pe_op op_add (pv 5) pe_int) pa_nil))) pa_nil))) (pss_one (ps_aug (i := 5) sc_block_cover.nd rfl (by first | exact Or.inl rfl | exact Or.inr rfl) pe_int ip_add (by first | exact Or.inl rfl | exact Or.inr rfl))))))) (pss_one (ps_ret (pv 4))))))), ?_⟩
    refine ⟨_, rfl, _, _, rfl, hq, rfl, _, _, rfl, _, _, rfl, rfl, ?_⟩
    refine ⟨(by show 0 ≤ sizeLine; decide), fun F H1 nF e1 hF => ?_⟩
    refine ⟨_, rfl, ?_⟩
    refine st_eq (σ' := [some (.ref q), some (.int c), some (.int kk.1), some (.int kk.2), some (.ref F), none]) (P := fun σ => gName 5 (V.int kk.1) σ H1 _) rfl ?_
    have e1' : Ex H H1 := e1
    refine ⟨fun m σ' H' => ∃ (b : Int) (us : List V) (ts : List (List Int)), σ' = [some (.ref q), some (.int c), some (.int kk.1), some (.int kk.2), some (.ref F), some (.int b)] ∧ Ex H H' ∧ H' F = some (.lst us) ∧ AllR (TkR K H') us ts ∧ ts ++ coverGo kk c m b = coverB kk c ∧ (kk.2 - b + 1).toNat ≤ m ∧ ts.length + m ≤ 1001, ⟨(kk.2 - kk.1 + 1).toNat, kk.1, [], [], rfl, e1, hF, AllR.nil, rfl, Nat.le_refl _, by show 0 + _ ≤ 1001; omega⟩, ?_⟩
    rintro m σ' H2 ⟨b, us, ts, rfl, e2, f2, a2, g2, m2, l2⟩
    have ul := a2.1
    refine ⟨_, rfl, _, rfl, _, _, rfl, rfl, _, rfl, ?_⟩
    refine ifB (fun cc => ?_) (fun cc => ?_)
    · have cc : b ≤ kk.2 := of_decide_eq_true cc
      obtain ⟨m', rfl⟩ : ∃ m', m = m' + 1 := ⟨m - 1, by omega⟩
      refine ⟨fun σ'' H'' => ∃ m2, m2 < m' + 1 ∧ ∃ (b : Int) (us : List V) (ts : List (List Int)), σ'' = [some (.ref q), some (.int c), some (.int kk.1), some (.int kk.2), some (.ref F), some (.int b)] ∧ Ex H H'' ∧ H'' F = some (.lst us) ∧ AllR (TkR K H'') us ts ∧ ts ++ coverGo kk c m2 b = coverB kk c ∧ (kk.2 - b + 1).toNat ≤ m2 ∧ ts.length + m2 ≤ 1001, fun _ _ h => h, ?_⟩
      have gs : coverGo kk c (m' + 1) b = if (kk.2 - kk.1) % 2 = 0 ∧ b = kk.1 + 2 * c then [b] :: coverGo kk c m' (b + 1) else [b, b + 1] :: coverGo kk c m' (b + 2) := by
        rw [coverGo, if_pos cc]
      have step : ∀ (t : List Int) (b' : Int), coverGo kk c (m' + 1) b = t :: coverGo kk c m' b' → b < b' → ∀ {H3 : Hp} (p : Addr), Ex H2 H3 → H2 p = none → H3 p = some (.tup (t.map V.int)) → H3 F = some (.lst us) ∧ us.length < sizeLine ∧ ∃ m2, m2 < m' + 1 ∧ ∃ (b0 : Int) (us' : List V) (ts' : List (List Int)), [some (V.ref q), some (.int c), some (.int kk.1), some (.int kk.2), some (.ref F), some (.int b')] = [some (V.ref q), some (.int c), some (.int kk.1), some (.int kk.2), some (.ref F), some (.int b0)] ∧ Ex H (upd H3 F (.lst (us ++ [.ref p]))) ∧ upd H3 F (.lst (us ++ [.ref p])) F = some (.lst us') ∧ AllR (TkR K (upd H3 F (.lst (us ++ [.ref p])))) us' ts' ∧ ts' ++ coverGo kk c m2 b0 = coverB kk c ∧ (kk.2 - b0 + 1).toNat ≤ m2 ∧ ts'.length + m2 ≤ 1001 := fun t b' hg hb H3 p e3 np hp => by
        have npF : p ≠ F := (ne_of_none f2 np).symm
        have ej : Exj F H2 (upd H3 F (.lst (us ++ [.ref p]))) := (Exj.of e3).upd
        refine ⟨e3 _ _ f2, Nat.lt_of_le_of_lt (show us.length ≤ 1001 by omega) (by decide), m', by omega, b', us ++ [.ref p], ts ++ [t], rfl, Evl.Ex.mut (e2.trans e3) nF, upd_same, AllR.snoc (a2.mono fun v x r => r.exj ej f2) ⟨p, rfl, sqT (by rw [upd_ne npF]; exact hp)⟩, ?_, by omega, by rw [List.length_append]; show _ + 1 + _ ≤ _; omega⟩
        rw [List.append_assoc, ← g2, hg]
        rfl
      have one : ¬ ((kk.2 - kk.1) % 2 = 0 ∧ b = kk.1 + 2 * c) → coverGo kk c (m' + 1) b = [b, b + 1] :: coverGo kk c m' (b + 2) := fun h => by rw [gs, if_neg h]
      refine ⟨_, rfl, _, rfl, _, _, rfl, rfl, _, _, rfl, rfl, (show (0 : Int) < 2 by decide), rfl, _, rfl, ?_⟩
      rw [decInt]
      refine ifB (fun c2 => ?_) (fun c2 => ?_)
      · have c2 := of_decide_eq_true c2
        refine ⟨_, rfl, _, rfl, _, rfl, _, _, rfl, rfl, wide_mul (a := 20) (b := 20) (by decide) (by omega) (by decide) (by decide) (by decide), _, _, rfl, rfl, rfl, _, rfl, ?_⟩
        rw [decInt]
        refine ifB (fun c3 => ?_) (fun c3 => ?_)
        · have c3 : b = kk.1 + 2 * c := of_decide_eq_true c3
          refine ⟨_, rfl, .inl ⟨rfl, _, sqI f2⟩, _, rfl, (by show 1 ≤ sizeLine; decide), fun p H3 n3 e3 h3 => ?_⟩
          obtain ⟨g1, g3, g4⟩ := step [b] (b + 1) (by rw [gs, if_pos ⟨c2, c3⟩]) (by omega) p e3 n3 h3
          exact ⟨_, _, _, rfl, rfl, g1, g3, _, rfl, _, _, rfl, rfl, g4⟩
        · have c3 : ¬ b = kk.1 + 2 * c := of_decide_eq_false c3
          refine ⟨_, rfl, .inl ⟨rfl, _, sqI f2⟩, _, rfl, _, rfl, _, _, rfl, rfl, (by show 2 ≤ sizeLine; decide), fun p H3 n3 e3 h3 => ?_⟩
          obtain ⟨g1, g3, g4⟩ := step [b, b + 1] (b + 2) (one fun z => c3 z.2) (by omega) p e3 n3 h3
          exact ⟨_, _, _, rfl, rfl, g1, g3, _, rfl, _, _, rfl, rfl, g4⟩
      · have c2 := of_decide_eq_false c2
        refine ⟨_, rfl, .inl ⟨rfl, _, sqI f2⟩, _, rfl, _, rfl, _, _, rfl, rfl, (by show 2 ≤ sizeLine; decide), fun p H3 n3 e3 h3 => ?_⟩
        obtain ⟨g1, g3, g4⟩ := step [b, b + 1] (b + 2) (one fun z => c2 z.1) (by omega) p e3 n3 h3
        exact ⟨_, _, _, rfl, rfl, g1, g3, _, rfl, _, _, rfl, rfl, g4⟩
    · have cc : ¬ b ≤ kk.2 := of_decide_eq_false cc
      have : coverGo kk c m b = [] := by
        cases m with
        | zero => rfl
        | succ m => rw [coverGo, if_neg cc]
      rw [this, List.append_nil] at g2
      rw [g2] at a2
      exact ⟨_, rfl, k F H2 us nF e2 f2 a2⟩
theorem ok_cover_in (T : Txt K mg) : FnOk PR w K mg base CX0 2 T.a_cover_in T.d_cover_in ["there", "marks", "index"] (sp_cover_in K) := by
  refine T.f_cover_in.ok sc_cover_in (fun vs H Q E h => ?_) (fun cdv A outer s H vs Q E hr h => ?_)
  · obtain ⟨a, m, ns, ms, x, rfl, _⟩ := h
    rfl
  · obtain ⟨a, m, ns, ms, ix, rfl, ha, hm, nl, i0, k⟩ := h
    refine ⟨_, (pss_cons (ps_set (i := 3) sc_cover_in.nd rfl (by first | exact Or.inl rfl | exact Or.inr rfl) (pe_call (ok_blocks_of T) (hr.mono (by decide)) (by rfl) T.g_blocks_of T.f_blocks_of.kp (b_blocks_of T) .nil pass0 (pa_cons (pe_call (ok_borders_in T) (hr.mono (by decide)) (by rfl) T.g_borders_in T.f_borders_in.kp (b_borders_in T) .nil pass0 (pa_cons (pv 0) (pa_cons (pv 1) pa_nil))) pa_nil))) (pss_cons (ps_set (i := 4) sc_cover_in.nd rfl (by first | exact Or.inl rfl | exact Or.inr rfl) (pe_lstG pa_nil)) (pss_cons (ps_for PassesOwn.never rfl (pi_list (pe_revG (pe_call (ok_numbers_of_covers T) (hr.mono (by decide)) (by rfl) T.g_numbers_of_covers T.f_numbers_of_covers.kp (b_numbers_of_covers T) .nil pass0 (pa_cons (pv 3) pa_nil)))) (pg_name (i := 5) sc_cover_in.nd rfl (by first | exact Or.inl rfl | exact Or.inr rfl)) (pss_cons (ps_expr (pe_bm PySem.F.plainAttrs_list PySem.F.slot_list_append PySem.F.type_list_append mt_append (pv 4) (pa_cons (pe_op op_mod (pv 2) (pv 5)) pa_nil))) (pss_one (ps_set (i := 2) sc_cover_in.nd rfl (by first | exact Or.inl rfl | exact Or.inr rfl) (pe_op op_fdivW (pv 2) (pv 5)))))) (pss_cons (ps_set (i := 6) sc_cover_in.nd rfl (by first | exact Or.inl rfl | exact Or.inr rfl) (pe_lstG pa_nil)) (pss_cons (ps_for PassesOwn.never rfl (pi_zip (by rfl) T.z_zip (pa_cons (pv 3) (pa_cons (pe_revG (pv 4)) pa_nil))) (pg_tup rfl (pgs_cons (pg_name (i := 7) sc_cover_in.nd rfl (by first | exact Or.inl rfl | exact Or.inr rfl)) (pgs_cons (pg_name (i := 8) sc_cover_in.nd rfl (by first | exact Or.inl rfl | exact Or.inr rfl)) pgs_nil))) (pss_one (ps_expr (pe_bm PySem.F.plainAttrs_list PySem.F.slot_list_extend PySem.F.type_list_extend mt_extend (pv 6) (pa_cons (pe_call (ok_block_cover T) (hr.mono (by decide)) (by rfl) T.g_block_cover T.f_block_cover.kp (b_block_cover T) .nil pass0 (pa_cons (pv 7) (pa_cons (pv 8) pa_nil))) pa_nil))))) (pss_one (ps_ret (pv 6)))))))), ?_⟩
    have bl := borders_len ns ms
    have kl := blocks_len (bordersL ns ms)
    obtain ⟨bs, hbs⟩ : ∃ bs, bs = blocksL (bordersL ns ms) := ⟨_, rfl⟩
    refine ⟨_, rfl, _, rfl, a, m, ns, ms, rfl, ha, hm, by omega, fun p1 H1 n1 e1 h1 => ?_⟩
    refine ⟨p1, bordersL ns ms, rfl, sqI h1, by omega, fun p2 H2 us n2 e2 h2 a2 => ?_⟩
    rw [← hbs] at a2 kl
    have bin : ∀ kk ∈ bs, kk.1 ≤ kk.2 ∧ kk.2 - kk.1 ≤ 500 := fun kk hk => by
      rw [hbs] at hk
      have h1 := blocks_le _ kk hk
      have h4 := blocks_in hk
      omega
    have ul := a2.1
    refine ⟨(by show 0 ≤ sizeLine; decide), fun C H3 nC e3 hC => ?_⟩
    refine st_eq (σ' := [some (.ref a), some (.ref m), some (.int ix), some (.ref p2), none, none, none, none, none]) (P := fun σ => gName 4 (V.ref C) σ H3 _) rfl ?_
    refine ⟨_, rfl, p2, us, bs, rfl, sqI (e3 _ _ h2), a2.mono fun v x r => r.ex e3, by omega, fun p4 H4 n4 e4 h4 => ?_⟩
    refine ⟨_, _, rfl, sqI h4, fun p5 H5 n5 e5 h5 => ?_⟩
    rw [← List.map_reverse] at h5
    obtain ⟨nr, hnr⟩ : ∃ nr, nr = (bs.map numB).reverse := ⟨_, rfl⟩
    rw [← hnr] at h5
    have nrl : nr.length = bs.length := by rw [hnr]; simp
    have npos : ∀ x ∈ nr, 1 ≤ x ∧ x ≤ 502 := fun x hx => by
      rw [hnr] at hx
      obtain ⟨kk, hk, rfl⟩ := List.mem_map.mp (List.mem_reverse.mp hx)
      have h1 := bin kk hk
      have h2 := numB_pos h1.1
      have h3 := numB_le h1.1
      omega
    have e35 := e4.trans e5
    have n5C : p5 ≠ C := (ne_of_none (e4 _ _ hC) n5).symm
    refine ⟨p5, rfl, ⟨_, sqI h5⟩, for_it (walk_list (K := K) (a := p5) (xs := nr.map V.int)) (fun i σ H' => ∃ (v5 : Option V), σ = [some (.ref a), some (.ref m), some (.int (restG (nr.take i) ix)), some (.ref p2), some (.ref C), v5, none, none, none] ∧ Exj C H5 H' ∧ H' C = some (.lst ((chG (nr.take i) ix).map V.int))) ⟨_, rfl, Exj.refl _ _, e35 _ _ hC⟩ (fun i σ H' _ ⟨_, _, e, _⟩ => sqI (e _ _ n5C h5)) ?_ ?_⟩
    · rintro i v σ HX H6 hi ⟨v5, rfl, e6, c6⟩ ⟨rfl, hv⟩
      obtain ⟨x, hx, rfl⟩ := mapI_get hv
      obtain ⟨x1, x2⟩ := npos x (List.mem_of_getElem? hx)
      obtain ⟨t1, t2⟩ := chG_take nr ix i x hx
      refine ⟨_, rfl, .inl ⟨rfl, _, sqI c6⟩, _, rfl, _, rfl, _, _, rfl, rfl, (show 0 < x by omega), _, _, _, rfl, rfl, c6, ?_, ?_⟩
      · rw [List.length_map, chG_len, List.length_take]
        exact Nat.lt_of_le_of_lt (show _ ≤ 1000 by omega) (by decide)
      refine ⟨_, rfl, _, rfl, _, _, rfl, rfl, wide_div (b := 20) (by omega) (by omega) (by decide) (by decide), ?_⟩
      refine ⟨some (.int x), ?_, e6.upd, ?_⟩
      · rw [t2]
        rfl
      · rw [upd_same, t1, List.map_append]
        rfl
    · rintro σ H6 ⟨v5, rfl, e6, c6⟩
      rw [List.length_map, List.take_length] at c6
      have n2C : p2 ≠ C := ne_of_none h2 nC
      have h26 := e6 _ _ n2C (e35 _ _ (e3 _ _ h2))
      have a6 : AllR (BkR K H6) us bs := a2.mono fun v x r => (r.ex (e3.trans e35)).exj e6 (e35 _ _ hC)
      obtain ⟨rc, hrc⟩ : ∃ rc, rc = (chG nr ix).reverse := ⟨_, rfl⟩
      have rcl : rc.length = bs.length := by rw [hrc, List.length_reverse, chG_len, nrl]
      have rcb : ∀ c ∈ rc, 0 ≤ c ∧ c ≤ 502 := fun c hc => by
        rw [hrc] at hc
        exact chG_bound nr ix npos c (List.mem_reverse.mp hc)
      refine ⟨(by show 0 ≤ sizeLine; decide), fun F H7 nF e7 hF => ?_⟩
      refine ⟨_, rfl, _, rfl, _, _, rfl, sqI (e7 _ _ c6), fun p8 H8 n8 e8 h8 => ?_⟩
      rw [← List.map_reverse, ← hrc] at h8
      have n2F : p2 ≠ F := ne_of_none h26 nF
      have n8F : p8 ≠ F := (ne_of_none hF n8).symm
      have e68 := e7.trans e8
      have h28 := e68 _ _ h26
      have hF8 := e8 _ _ hF
      refine ⟨p2, p8, us, _, rfl, sqI h28, sqI h8, for_it (walk_zip (K := K) (a := p2) (b := p8) (xs := us) (ys := rc.map V.int) rfl) (fun i σ H' => ∃ (v7 v8 : Option V) (ws : List V), σ = [some (.ref a), some (.ref m), some (.int (restG (nr.take (nr.map V.int).length) ix)), some (.ref p2), some (.ref C), v5, some (.ref F), v7, v8] ∧ Exj F H8 H' ∧ H' F = some (.lst ws) ∧ AllR (TkR K H') ws (((bs.zip rc).take i).flatMap fun kc => coverB kc.1 kc.2) ∧ ws.length ≤ 501 * i) ⟨_, _, [], rfl, Exj.refl _ _, hF8, AllR.nil, by show 0 ≤ _; omega⟩ (fun i H' _ _ ⟨_, _, _, _, e, _⟩ => ⟨sqI (e _ _ n2F h28), sqI (e _ _ n8F h8)⟩) ?_ ?_⟩
      · rintro i v σ HX HY hi ⟨v7, v8, ws, rfl, eX, fX, aX, lX⟩ ⟨q, x, y, rfl, nq, rfl, hx, hy⟩
        obtain ⟨kk, hkk, qk, rfl, hqk⟩ := AllR.get a6 hx
        obtain ⟨c, hc, rfl⟩ := mapI_get hy
        have hz : (bs.zip rc)[i]? = some (kk, c) := List.getElem?_zip_eq_some.mpr ⟨hkk, hc⟩
        obtain ⟨k1, k2⟩ := bin kk (List.mem_of_getElem? hkk)
        obtain ⟨c1, c2⟩ := rcb c (List.mem_of_getElem? hc)
        have eY : Ex HX (upd HX q (.tup [.ref qk, .int c])) := Evl.Ex.new nq
        have hY : upd HX q (.tup [.ref qk, .int c]) q = some (.tup [.ref qk, .int c]) := upd_same
        generalize upd HX q (.tup [V.ref qk, .int c]) = HY at eY hY ⊢
        have hq' : SqT K HY qk [.int kk.1, .int kk.2] := Evl.ex_t eY (sqT_exj eX hF8 (Evl.ex_t e68 hqk))
        have fY := eY _ _ fX
        have ib : i < us.length := Nat.lt_of_lt_of_le hi (Nat.min_le_left _ _)
        refine ⟨_, _, rfl, sqT hY, rfl, _, _, rfl, _, _, rfl, rfl, ?_⟩
        refine ⟨_, rfl, .inl ⟨rfl, _, sqI fY⟩, _, rfl, _, rfl, qk, kk, c, rfl, hq', by omega, by omega, by omega, fun p9 H9 us9 n9 e9 h9 a9 => ?_⟩
        have f9 := e9 _ _ fY
        have l9 : us9.length ≤ 501 := by rw [a9.1]; exact coverB_len k2
        refine ⟨_, _, _, _, rfl, rfl, f9, h9, Nat.le_trans (show ws.length + us9.length ≤ 501 * 500 by omega) (by decide), ?_⟩
        have ej : Exj F HX (upd H9 F (.lst (ws ++ us9))) := (Exj.of (eY.trans e9)).upd
        refine ⟨_, _, ws ++ us9, rfl, eX.trans ej, upd_same, ?_, by rw [List.length_append]; omega⟩
        rw [take_snoc hz, List.flatMap_append]
        have a9' : AllR (TkR K (upd H9 F (.lst (ws ++ us9)))) us9 ([(kk, c)].flatMap fun kc => coverB kc.1 kc.2) := by
          rw [List.flatMap_cons, List.flatMap_nil, List.append_nil]
          exact a9.mono fun v x r => r.exj ((Exj.refl F H9).upd) f9
        exact AllR.append (aX.mono fun v x r => r.exj ej fX) a9'
      · rintro σ HX ⟨v7, v8, ws, rfl, eX, fX, aX, lX⟩
        have zl : (bs.zip rc).length = bs.length := by rw [List.length_zip]; omega
        have tk : (bs.zip rc).take (min us.length (rc.map V.int).length) = bs.zip rc := by
          refine List.take_of_length_le ?_
          rw [List.length_map]
          omega
        rw [tk] at aX
        have cv : coverL (blocksL (bordersL ns ms)) ix = (bs.zip rc).flatMap fun kc => coverB kc.1 kc.2 := by
          rw [hrc, hnr, hbs]
          rfl
        refine ⟨_, rfl, k F HX ws ?_ ?_ fX (by rw [cv]; exact aX)⟩
        · cases z : H F with
          | none => rfl
          | some o =>
            have b2 := (e1.trans e2) _ _ z
            have nb := ne_of_none b2 nC
            have := e6 _ _ nb (e35 _ _ (e3 _ _ b2))
            rw [nF] at this
            cases this
        · intro b o hb
          have b2 := (e1.trans e2) _ _ hb
          have nbC : b ≠ C := ne_of_none b2 nC
          have b6 := e6 _ _ nbC (e35 _ _ (e3 _ _ b2))
          exact eX _ _ (ne_of_none b6 nF) (e68 _ _ b6)
end
end K31
set_option Elab.async false
set_option pp.maxSteps 1200
set_option linter.all false
set_option maxRecDepth 100000
set_option maxHeartbeats 4000000
namespace K31
open PySem L2 My
theorem IsCl.ex {K : PySem.W.Frag} {H H' : Hp} {v : V} {t : Cl} (h : IsCl K H v t) (e : Ex H H') : IsCl K H' v t := let ⟨q, a, b⟩ := h; ⟨q, a, Evl.ex_t e b⟩
theorem IsCl.exj {K : PySem.W.Frag} {H H' : Hp} {j : Addr} {ys : List V} {v : V} {t : Cl} (h : IsCl K H v t) (e : Exj j H H') (hj : H j = some (.lst ys)) : IsCl K H' v t := let ⟨q, a, b⟩ := h; ⟨q, a, sqT_exj e hj b⟩
def sp_clicks_in (K : PySem.W.Frag) : Sp := fun vs H Q _ => ∃ (a : Addr) (us : List V) (cv : List (List Int)), vs = [.ref a] ∧ SqL K H a us ∧ AllR (TkR K H) us cv ∧ cv.length ≤ 300000 ∧ (singlesL cv).length % 2 = 0 ∧ ∀ p H' us, H p = none → Ex H H' → H' p = some (.lst us) → AllR (IsCl K H') us (clicksL cv) → Q (.ref p) H'
section
variable {w : World} {K : PySem.W.Frag} {mg : Str → Option Value} {base : Heap}
theorem ok_clicks_in (T : Txt K mg) : FnOk PR w K mg base CX0 1 T.a_clicks_in T.d_clicks_in ["cover"] (sp_clicks_in K) := by
  refine T.f_clicks_in.ok sc_clicks_in (fun vs H Q E h => ?_) (fun cdv A outer s H vs Q E hr h => ?_)
  · obtain ⟨a, us, cv, rfl, _⟩ := h
    rfl
  · obtain ⟨a, us, cv, rfl, ha, hk, hl, ev, k⟩ := h
    refine ⟨_, (pss_cons (ps_setLc (i := 1) (own := [("token", 4)]) (g := gName 4) (by rfl) sc_clicks_in.nd rfl rfl (sw_true rfl rfl rfl (by decide +kernel)) (pi_list (pv 0)) (blkOk_by (own := [("token", 4)]) (N := ["cover", "singles", "found", "place", "token"]) (sc := (defScope s_clicks_in)) (by decide +kernel)) (fun _ _ _ _ _ => (pg_name (i := 4) sc_clicks_in.nd rfl (by first | exact Or.inl rfl | exact Or.inr rfl))) (fun _ _ _ _ _ => (pts_one (pt_cmpR op_eq (pe_callB (crK (r := rLenSq) (K := K) (by rfl) call_len_seq) (by rfl) T.z_len PySem.boot_len (pa_cons (pv 4) pa_nil)) pe_int (nomark _)))) (fun _ _ _ _ _ => (pe_ix (ixK (r := rIxT) (K := K) (by rfl) ix_tup) (pv 4) pe_int (fun _ _ => rfl)))) (pss_cons (ps_set (i := 2) sc_clicks_in.nd rfl (by first | exact Or.inl rfl | exact Or.inr rfl) (pe_lstG pa_nil)) (pss_cons (ps_for PassesOwn.never rfl (pi_range3 (by rfl) T.z_range (pa_cons pe_int (pa_cons (pe_callB call_len_seq (by rfl) T.z_len PySem.boot_len (pa_cons (pv 1) pa_nil)) (pa_cons pe_int pa_nil)))) (pg_name (i := 3) sc_clicks_in.nd rfl (by first | exact Or.inl rfl | exact Or.inr rfl)) (pss_cons (ps_expr (pe_bm PySem.F.plainAttrs_list PySem.F.slot_list_append PySem.F.type_list_append mt_append (pv 2) (pa_cons (pe_tupG (pa_cons (pe_glob (v := .str "click") rfl T.g_CLICK ⟨_, rfl⟩) (pa_cons (pe_ix ix_list (pv 1) (pv 3) (fun _ _ => rfl)) pa_nil))) pa_nil))) (pss_one (ps_expr (pe_bm PySem.F.plainAttrs_list PySem.F.slot_list_append PySem.F.type_list_append mt_append (pv 2) (pa_cons (pe_tupG (pa_cons (pe_glob (v := .str "range") rfl T.g_RANGE ⟨_, rfl⟩) (pa_cons (pe_op op_sub (pe_ix ix_list (pv 1) (pe_op op_add (pv 3) pe_int) (fun _ _ => rfl)) pe_int) pa_nil))) pa_nil)))))) (pss_cons (ps_expr (pe_bm PySem.F.plainAttrs_list PySem.F.slot_list_extend PySem.F.type_list_extend mt_extend (pv 2) (pa_cons (pe_lc (own := [("token", 4)]) (g := gName 4) (by rfl) sc_clicks_in.nd (pi_list (pv 0)) (blkOk_by (own := [("token", 4)]) (N := ["cover", "singles", "found", "place", "token"]) (sc := (defScope s_clicks_in)) (by decide +kernel)) (fun _ _ _ _ _ => (pg_name (i := 4) sc_clicks_in.nd rfl (by first | exact Or.inl rfl | exact Or.inr rfl))) (fun _ _ _ _ _ => (pts_one (pt_cmpR op_eq (pe_callB (crK (r := rLenSq) (K := K) (by rfl) call_len_seq) (by rfl) T.z_len PySem.boot_len (pa_cons (pv 4) pa_nil)) pe_int (nomark _)))) (fun _ _ _ _ _ => (pe_tupG (pa_cons (pe_glob (v := .str "click") rfl T.g_CLICK ⟨_, rfl⟩) (pa_cons (pe_ix (ixK (r := rIxT) (K := K) (by rfl) ix_tup) (pv 4) pe_int (fun _ _ => rfl)) pa_nil))))) pa_nil))) (pss_one (ps_ret (pv 2))))))), ?_⟩
    have ul := hk.1
    have lens : ∀ t : List Int, decide (V.int (((t.map V.int).length : Nat) : Int) = V.int 1) = decide (t.length = 1) ∧ decide (V.int (((t.map V.int).length : Nat) : Int) = V.int 2) = decide (t.length = 2) := fun t => by
      rw [decInt, decInt, List.length_map]
      exact ⟨decide_eq_decide.mpr (by omega), decide_eq_decide.mpr (by omega)⟩
    refine ⟨_, rfl, a, rfl, ⟨_, ha⟩, fun S nS => lc_it (walk_list (K := K) (a := a) (xs := us)) (fun i H' => Ex H H' ∧ H' S = some (.lst ((singlesL (cv.take i)).map V.int))) ⟨Evl.Ex.new nS, upd_same⟩ (fun i H' _ z => Evl.ex_l z.1 ha) ?_ ?_⟩
    · rintro i v H1 H2 hi ⟨e2, s2⟩ ⟨rfl, hv⟩
      obtain ⟨t, ht, q, rfl, hq⟩ := AllR.get hk hv
      have hq2 := Evl.ex_t e2 hq
      refine ⟨rfl, ?_⟩
      show _
      refine ⟨_, rfl, _, _, rfl, .inr hq2, rfl, _, rfl, ?_⟩
      rw [(lens t).1]
      have tk : singlesL (cv.take (i + 1)) = singlesL (cv.take i) ++ (if t.length = 1 then [t.getD 0 0] else []) := by
        unfold singlesL
        rw [take_snoc ht, List.filter_append, List.map_append]
        congr 1
        rw [List.filter_cons]
        by_cases z : t.length = 1
        · rw [if_pos (decide_eq_true z), if_pos z]; rfl
        · rw [if_neg (by simp [z]), if_neg z]; rfl
      have a0 : ∀ n, t.length = n + 1 → atI (t.map V.int) 0 = some (.int (t.getD 0 0)) := fun n hn => by
        cases t with
        | nil => cases hn
        | cons x r => exact at0
      refine ifB (fun c => ?_) (fun c => ?_)
      · have c := of_decide_eq_true c
        rw [if_pos c] at tk
        refine ⟨_, rfl, _, _, _, _, rfl, rfl, hq2, a0 0 c, _, s2, ?_, Evl.Ex.mut e2 nS, ?_⟩
        · rw [List.length_map]
          have := singles_len (cv.take i)
          rw [List.length_take] at this
          exact Nat.lt_of_le_of_lt (show _ ≤ 300000 by omega) (by decide)
        · rw [upd_same, tk, List.map_append]
          rfl
      · have c := of_decide_eq_false c
        rw [if_neg c, List.append_nil] at tk
        exact ⟨e2, by rw [tk]; exact s2⟩
    rintro H1 ⟨e1, s1⟩
    rw [ul, List.take_length] at s1
    obtain ⟨ss, hss⟩ : ∃ ss, ss = singlesL cv := ⟨_, rfl⟩
    rw [← hss] at s1 ev
    have ssl : ss.length ≤ 300000 := by rw [hss]; exact Nat.le_trans (singles_len cv) hl
    refine ⟨(by show 0 ≤ sizeLine; decide), fun F H2 nF e2 hF => ?_⟩
    have s2 := e2 _ _ s1
    have nSF : S ≠ F := ne_of_none s1 nF
    have nFH : H F = none := none_of e1 nF
    have e02 := e1.trans e2
    refine ⟨_, rfl, _, _, rfl, .inl (sqI s2), _, _, _, _, rfl, (by rw [List.length_map]; exact rg_two (by omega) ev), ?_⟩
    refine for_rangeC (lo := 0) (c := 2) (n := ss.length / 2) (fun i σ H' => ∃ (v3 v4 : Option V) (ws : List V), σ = [some (.ref a), some (.ref S), some (.ref F), v3, v4] ∧ Ex H H' ∧ H' S = some (.lst (ss.map V.int)) ∧ H' F = some (.lst ws) ∧ AllR (IsCl K H') ws (pairsL (ss.take (2 * i)))) ⟨_, _, [], rfl, e02, s2, hF, AllR.nil⟩ ?_ ?_
    · rintro i σ H3 hi ⟨v3, v4, ws, rfl, e3, s3, f3, a3⟩
      have il : 2 * i + 1 < ss.length := by omega
      have pt := pairs_take il
      have wl : ws.length ≤ ss.length := by
        have := pairs_len (ss.take (2 * i))
        rw [List.length_take] at this
        have := a3.1
        omega
      have c1 : atI (ss.map V.int) ((0 : Int) + (i : Nat) * 2) = some (.int (ss.getD (2 * i) 0)) := by
        refine at_of (j := 2 * i) (by omega) ?_
        rw [List.getElem?_map, List.getD_eq_getElem?_getD, List.getElem?_eq_getElem (by omega)]
        rfl
      have c2 : atI (ss.map V.int) ((0 : Int) + (i : Nat) * 2 + 1) = some (.int (ss.getD (2 * i + 1) 0)) := by
        refine at_of (j := 2 * i + 1) (by omega) ?_
        rw [List.getElem?_map, List.getD_eq_getElem?_getD, List.getElem?_eq_getElem il]
        rfl
      refine ⟨_, rfl, .inl ⟨rfl, _, sqI f3⟩, _, rfl, _, rfl, _, _, _, _, rfl, rfl, sqI s3, c1, (by show 2 ≤ sizeLine; decide), fun p4 H4 n4 e4 h4 => ?_⟩
      have f4 := e4 _ _ f3
      have n4F : p4 ≠ F := (ne_of_none f3 n4).symm
      refine ⟨_, _, _, rfl, rfl, f4, Nat.lt_of_le_of_lt (show ws.length ≤ 300000 by omega) (by decide), ?_⟩
      have e5 : Ex H (upd H4 F (.lst (ws ++ [.ref p4]))) := Evl.Ex.mut (e3.trans e4) nFH
      have j5 : Exj F H3 (upd H4 F (.lst (ws ++ [.ref p4]))) := (Exj.of e4).upd
      have f5 : upd H4 F (.lst (ws ++ [.ref p4])) F = some (.lst (ws ++ [.ref p4])) := upd_same
      have h5 : upd H4 F (.lst (ws ++ [.ref p4])) p4 = some (.tup [.str "click", .int (ss.getD (2 * i) 0)]) := by rw [upd_ne n4F]; exact h4
      generalize upd H4 F (.lst (ws ++ [V.ref p4])) = H5 at e5 j5 f5 h5 ⊢
      have s5 := j5 _ _ nSF s3
      have a5 : AllR (IsCl K H5) (ws ++ [.ref p4]) (pairsL (ss.take (2 * i)) ++ [(("click" : Str), ss.getD (2 * i) 0)]) := AllR.snoc (a3.mono fun v x r => r.exj j5 f3) ⟨p4, rfl, sqT h5⟩
      refine ⟨_, rfl, .inl ⟨rfl, _, sqI f5⟩, _, rfl, _, rfl, _, _, rfl, rfl, _, _, _, _, rfl, rfl, sqI s5, c2, _, _, rfl, rfl, (by show 2 ≤ sizeLine; decide), fun p6 H6 n6 e6 h6 => ?_⟩
      have f6 := e6 _ _ f5
      have n6F : p6 ≠ F := (ne_of_none f5 n6).symm
      refine ⟨_, _, _, rfl, rfl, f6, Nat.lt_of_le_of_lt (show (ws ++ [V.ref p4]).length ≤ 300001 by rw [List.length_append]; show _ + 1 ≤ _; omega) (by decide), ?_⟩
      have j7 : Exj F H5 (upd H6 F (.lst (ws ++ [.ref p4] ++ [.ref p6]))) := (Exj.of e6).upd
      refine ⟨_, _, ws ++ [.ref p4] ++ [.ref p6], rfl, Evl.Ex.mut (e5.trans e6) nFH, j7 _ _ nSF s5, upd_same, ?_⟩
      rw [pt, show pairsL (ss.take (2 * i)) ++ [(("click" : Str), ss.getD (2 * i) 0), (("range" : Str), ss.getD (2 * i + 1) 0 - 1)] = pairsL (ss.take (2 * i)) ++ [(("click" : Str), ss.getD (2 * i) 0)] ++ [(("range" : Str), ss.getD (2 * i + 1) 0 - 1)] by rw [List.append_assoc]; rfl]
      exact AllR.snoc (a5.mono fun v x r => r.exj j7 f5) ⟨p6, rfl, sqT (by rw [upd_ne n6F]; exact h6)⟩
    · rintro σ H3 ⟨v3, v4, ws, rfl, e3, s3, f3, a3⟩
      have tl : ss.take (2 * (ss.length / 2)) = ss := List.take_of_length_le (by omega)
      rw [tl] at a3
      have wl : ws.length ≤ 300000 := by
        have := pairs_len ss
        have := a3.1
        omega
      refine ⟨_, rfl, .inl ⟨rfl, _, sqI f3⟩, _, rfl, a, rfl, ⟨_, Evl.ex_l e3 ha⟩, fun D nD => lc_it (walk_list (K := K) (a := a) (xs := us)) (fun i H' => ∃ zs, Ex H3 H' ∧ H' D = some (.lst zs) ∧ AllR (IsCl K H') zs (((cv.take i).filter fun t : List Int => decide (t.length = 2)).map fun t : List Int => (("click" : Str), t.getD 0 0))) ⟨[], Evl.Ex.new nD, upd_same, AllR.nil⟩ (fun i H' _ ⟨_, e, _⟩ => Evl.ex_l (e3.trans e) ha) ?_ ?_⟩
      · rintro i v HX H4 hi ⟨zs, e4, d4, a4⟩ ⟨rfl, hv⟩
        obtain ⟨t, ht, q, rfl, hq⟩ := AllR.get hk hv
        have hq4 := Evl.ex_t (e3.trans e4) hq
        refine ⟨rfl, ?_⟩
        show _
        refine ⟨_, rfl, _, _, rfl, .inr hq4, rfl, _, rfl, ?_⟩
        rw [(lens t).2]
        have a0 : ∀ n, t.length = n + 1 → atI (t.map V.int) 0 = some (.int (t.getD 0 0)) := fun n hn => by
          cases t with
          | nil => cases hn
          | cons x r => exact at0
        have zl : zs.length ≤ 300000 := by
          have := a4.1
          rw [List.length_map] at this
          have h2 := List.length_filter_le (fun t : List Int => decide (t.length = 2)) (cv.take i)
          rw [List.length_take] at h2
          omega
        have tk : ((cv.take (i + 1)).filter fun t : List Int => decide (t.length = 2)).map (fun t : List Int => (("click" : Str), t.getD 0 0)) = ((cv.take i).filter fun t : List Int => decide (t.length = 2)).map (fun t : List Int => (("click" : Str), t.getD 0 0)) ++ (if t.length = 2 then [(("click" : Str), t.getD 0 0)] else []) := by
          rw [take_snoc ht, List.filter_append, List.map_append]
          congr 1
          rw [List.filter_cons]
          by_cases z : t.length = 2
          · rw [if_pos (decide_eq_true z), if_pos z]; rfl
          · rw [if_neg (by simp [z]), if_neg z]; rfl
        refine ifB (fun c => ?_) (fun c => ?_)
        · have c := of_decide_eq_true c
          rw [if_pos c] at tk
          refine ⟨_, rfl, _, _, _, _, rfl, rfl, hq4, a0 1 c, (by show 2 ≤ sizeLine; decide), fun p5 H5 n5 e5 h5 => ?_⟩
          have d5 := e5 _ _ d4
          have n5D : p5 ≠ D := (ne_of_none d4 n5).symm
          have j6 : Exj D H4 (upd H5 D (.lst (zs ++ [.ref p5]))) := (Exj.of e5).upd
          refine ⟨zs, d5, Nat.lt_of_le_of_lt zl (by decide), zs ++ [.ref p5], Evl.Ex.mut (e4.trans e5) nD, upd_same, ?_⟩
          rw [tk]
          exact AllR.snoc (a4.mono fun v x r => r.exj j6 d4) ⟨p5, rfl, sqT (by rw [upd_ne n5D]; exact h5)⟩
        · have c := of_decide_eq_false c
          rw [if_neg c, List.append_nil] at tk
          exact ⟨zs, e4, d4, by rw [tk]; exact a4⟩
      rintro H4 ⟨zs, e4, d4, a4⟩
      rw [ul, List.take_length] at a4
      have f4 := e4 _ _ f3
      have zl : zs.length ≤ 300000 := by
        have := a4.1
        rw [List.length_map] at this
        have h2 := List.length_filter_le (fun t : List Int => decide (t.length = 2)) cv
        omega
      refine ⟨_, _, _, _, rfl, rfl, f4, d4, Nat.le_trans (show ws.length + zs.length ≤ 600000 by omega) (by decide), ?_⟩
      refine ⟨_, rfl, k F _ (ws ++ zs) nFH (Evl.Ex.mut (e3.trans e4) nFH) upd_same ?_⟩
      have j5 : Exj F H4 (upd H4 F (.lst (ws ++ zs))) := (Exj.refl F H4).upd
      unfold clicksL
      rw [← hss]
      exact AllR.append (a3.mono fun v x r => (r.ex e4).exj j5 f4) (a4.mono fun v x r => r.exj j5 f4)
end
end K31
set_option Elab.async false
set_option pp.maxSteps 1200
set_option linter.all false
set_option maxRecDepth 100000
set_option maxHeartbeats 4000000
namespace K31
open PySem L2 My
/-! an even number of borders, of single tokens -/
def chgs (f : Nat → Bool) (n : Nat) : List Nat := (List.range n).filter fun p => !decide (f p = f (p + 1))
theorem chgs_par (f : Nat → Bool) : ∀ n, (chgs f n).length % 2 = if f 0 = f n then 0 else 1
  | 0 => by
    rw [if_pos rfl]
    rfl
  | n + 1 => by
    have ih := chgs_par f n
    unfold chgs at ih ⊢
    rw [List.range_succ, List.filter_append, List.length_append]
    cases h1 : f 0 <;> cases h2 : f n <;> cases h3 : f (n + 1) <;> simp [h1, h2, h3] at ih ⊢ <;> omega
theorem borders_chgs (ns ms : List Int) : bordersL ns ms = (chgs (fun p => (flagL ns ms).getD p false) (ns.length + 1)).map fun i => ((i : Nat) : Int) := by
  unfold bordersL chgs
  rw [List.filter_map]
  have : (fun p : Int => !decide ((flagL ns ms).getD p.toNat false = (flagL ns ms).getD (p.toNat + 1) false)) ∘ (fun i : Nat => (0 : Int) + (i : Int)) = fun p : Nat => !decide ((flagL ns ms).getD p false = (flagL ns ms).getD (p + 1) false) := by
    funext i
    show (!decide ((flagL ns ms).getD ((0 : Int) + (i : Int)).toNat false = _)) = _
    rw [show ((0 : Int) + (i : Int)).toNat = i by omega]
  rw [this]
  congr 1
  funext i
  omega
theorem flag_end (ns ms : List Int) : (flagL ns ms).getD 0 false = false ∧ (flagL ns ms).getD (ns.length + 1) false = false := by
  refine ⟨rfl, ?_⟩
  unfold flagL
  rw [List.getD_eq_getElem?_getD, List.getElem?_append_right (by simp)]
  simp
theorem borders_even (ns ms : List Int) : (bordersL ns ms).length % 2 = 0 := by
  rw [borders_chgs, List.length_map, chgs_par, (flag_end ns ms).1, (flag_end ns ms).2]
  rfl
def sizeB (k : Bk) : Int := k.2 - k.1 + 1
theorem addB_size (bs : List Bk) (b : Int) : ((addB bs b).map sizeB).sum = (bs.map sizeB).sum + 1 := by
  unfold addB
  split
  · rw [List.map_append, List.sum_append]
    show _ + ((b - b + 1) + 0) = _
    omega
  · rename_i l hl
    split
    · rename_i c
      have hb : bs = bs.dropLast ++ [l] := by
        have hne : bs ≠ [] := fun z => by rw [z] at hl; cases hl
        have e := List.dropLast_concat_getLast hne
        rw [List.getLast?_eq_some_getLast hne] at hl
        have hl := Option.some.inj hl
        rw [hl] at e
        exact e.symm
      have e2 : (bs.map sizeB).sum = (bs.dropLast.map sizeB).sum + sizeB l := by
        have := congrArg (fun x : List Bk => (x.map sizeB).sum) hb
        simp only [List.map_append, List.sum_append] at this
        rw [this]
        show _ + (sizeB l + 0) = _
        omega
      rw [List.map_append, List.sum_append, e2]
      show _ + ((b - l.1 + 1) + 0) = _ + (l.2 - l.1 + 1) + 1
      omega
    · rw [List.map_append, List.sum_append]
      show _ + ((b - b + 1) + 0) = _
      omega
theorem blocks_size (ps : List Int) : ((blocksL ps).map sizeB).sum = ps.length := by
  have go : ∀ (ps : List Int) (bs : List Bk), ((ps.foldl addB bs).map sizeB).sum = (bs.map sizeB).sum + ps.length := fun ps => by
    induction ps with
    | nil => intro bs; simp
    | cons p ps ih =>
      intro bs
      rw [List.foldl_cons, ih, addB_size, List.length_cons]
      omega
  have := go ps []
  simpa [blocksL] using this
theorem singles_app (a b : List (List Int)) : singlesL (a ++ b) = singlesL a ++ singlesL b := by
  unfold singlesL
  rw [List.filter_append, List.map_append]
theorem singles_one (b : Int) (l : List (List Int)) : singlesL ([b] :: l) = b :: singlesL l := rfl
theorem singles_two (b c : Int) (l : List (List Int)) : singlesL ([b, c] :: l) = singlesL l := rfl
theorem go_none (k : Bk) (c : Int) : ∀ (n : Nat) (b : Int), ((k.2 - k.1) % 2 ≠ 0 ∨ b > k.1 + 2 * c) → singlesL (coverGo k c n b) = []
  | 0, _, _ => rfl
  | n + 1, b, h => by
    unfold coverGo
    split
    · rw [if_neg (fun z => by rcases h with h | h; exact h z.1; omega), singles_two]
      exact go_none k c n (b + 2) (h.imp id fun z => by omega)
    · rfl
theorem go_one (k : Bk) (c : Int) (h : (k.2 - k.1) % 2 = 0) (hc : k.1 + 2 * c ≤ k.2) : ∀ (n : Nat) (b : Int), b ≤ k.1 + 2 * c → (k.1 + 2 * c - b) % 2 = 0 → (k.2 - b + 1).toNat ≤ n → singlesL (coverGo k c n b) = [k.1 + 2 * c]
  | 0, b, h1, _, h3 => by omega
  | n + 1, b, h1, h2, h3 => by
    unfold coverGo
    rw [if_pos (by omega)]
    by_cases e : b = k.1 + 2 * c
    · rw [if_pos ⟨h, e⟩, singles_one, go_none k c n (b + 1) (.inr (by omega)), e]
    · rw [if_neg (fun z => e z.2), singles_two]
      exact go_one k c h hc n (b + 2) (by omega) (by omega) (by omega)
theorem cover_singles {k : Bk} {c : Int} (hk : k.1 ≤ k.2) (h0 : 0 ≤ c) (h1 : c < numB k) : singlesL (coverB k c) = if (k.2 - k.1) % 2 = 0 then [k.1 + 2 * c] else [] := by
  unfold coverB
  by_cases e : (k.2 - k.1) % 2 = 0
  · rw [if_pos e]
    unfold numB at h1
    rw [if_pos (by omega)] at h1
    exact go_one k c e (by omega) _ _ (by omega) (by omega) (Nat.le_refl _)
  · rw [if_neg e]
    exact go_none k c _ _ (.inl e)
theorem chG_get : ∀ (l : List Int) (i : Int) (j : Nat) (c : Int), (chG l i)[j]? = some c → ∃ n x, l[j]? = some n ∧ c = x % n
  | [], _, j, c, h => by cases h
  | a :: l, i, 0, c, h => by
    cases h
    exact ⟨a, i, rfl, rfl⟩
  | a :: l, i, j + 1, c, h => chG_get l (i / a) j c h
/-- the choices of a cover fit their blocks -/
theorem choice_ok {bs : List Bk} (hb : ∀ k ∈ bs, k.1 ≤ k.2) (ix : Int) {kc : Bk × Int} (h : kc ∈ bs.zip (chG (bs.map numB).reverse ix).reverse) : kc.1 ∈ bs ∧ 0 ≤ kc.2 ∧ kc.2 < numB kc.1 := by
  obtain ⟨i, hi⟩ := List.mem_iff_getElem?.mp h
  obtain ⟨h1, h2⟩ := List.getElem?_zip_eq_some.mp hi
  have hk := List.mem_of_getElem? h1
  have il : i < bs.length := (List.getElem?_eq_some_iff.mp h1).1
  have cl : (chG (bs.map numB).reverse ix).length = bs.length := by rw [chG_len]; simp
  rw [List.getElem?_reverse (by rw [cl]; exact il), cl] at h2
  obtain ⟨n, x, hn, e⟩ := chG_get _ _ _ _ h2
  rw [List.getElem?_reverse (by rw [List.length_map]; omega), List.length_map, List.getElem?_map, show bs.length - 1 - (bs.length - 1 - i) = i by omega, h1] at hn
  have hn : numB kc.1 = n := Option.some.inj hn
  have np := numB_pos (hb _ hk)
  refine ⟨hk, ?_, ?_⟩
  · rw [e, ← hn]
    exact Int.emod_nonneg x (by omega)
  · rw [e, ← hn]
    exact Int.emod_lt_of_pos x (by omega)
theorem singles_flat : ∀ (l : List (Bk × Int)), (∀ kc ∈ l, kc.1.1 ≤ kc.1.2 ∧ 0 ≤ kc.2 ∧ kc.2 < numB kc.1) → (((singlesL (l.flatMap fun kc => coverB kc.1 kc.2)).length : Nat) : Int) % 2 = (l.map fun kc => sizeB kc.1).sum % 2
  | [], _ => rfl
  | kc :: l, h => by
    have ih := singles_flat l fun x hx => h x (List.mem_cons_of_mem _ hx)
    obtain ⟨h1, h2, h3⟩ := h kc List.mem_cons_self
    rw [List.flatMap_cons, singles_app, List.length_append, cover_singles h1 h2 h3, List.map_cons, List.sum_cons]
    have es : sizeB kc.1 = kc.1.2 - kc.1.1 + 1 := rfl
    split
    · show ((1 + _ : Nat) : Int) % 2 = _
      omega
    · show ((0 + _ : Nat) : Int) % 2 = _
      omega
theorem zip_fst_sum : ∀ (bs : List Bk) (cs : List Int), cs.length = bs.length → ((bs.zip cs).map fun kc => sizeB kc.1) = bs.map sizeB
  | [], _, _ => rfl
  | b :: bs, [], h => by cases h
  | b :: bs, c :: cs, h => by
    exact congrArg (sizeB b :: ·) (zip_fst_sum bs cs (by simpa using h))
theorem singles_even (ns ms : List Int) (ix : Int) : (singlesL (coverL (blocksL (bordersL ns ms)) ix)).length % 2 = 0 := by
  have h := singles_flat ((blocksL (bordersL ns ms)).zip (chG ((blocksL (bordersL ns ms)).map numB).reverse ix).reverse) fun kc hk => by
    obtain ⟨a, b, c⟩ := choice_ok (blocks_le _) ix hk
    exact ⟨blocks_le _ _ a, b, c⟩
  rw [zip_fst_sum _ _ (by rw [List.length_reverse, chG_len]; simp), blocks_size] at h
  have := borders_even ns ms
  unfold coverL
  omega
theorem cover_len (bs : List Bk) (hb : ∀ k ∈ bs, k.2 - k.1 ≤ 500) (ix : Int) : (coverL bs ix).length ≤ 501 * bs.length := by
  unfold coverL
  have go : ∀ (l : List (Bk × Int)), (∀ kc ∈ l, kc.1.2 - kc.1.1 ≤ 500) → (l.flatMap fun kc => coverB kc.1 kc.2).length ≤ 501 * l.length := fun l => by
    induction l with
    | nil => intro _; exact Nat.le_refl _
    | cons kc l ih =>
      intro h
      have h1 := ih fun x hx => h x (List.mem_cons_of_mem _ hx)
      have h2 := coverB_len (c := kc.2) (h kc List.mem_cons_self)
      rw [List.flatMap_cons, List.length_append, List.length_cons]
      omega
  refine Nat.le_trans (go _ fun kc hk => hb _ (List.of_mem_zip hk).1) ?_
  exact Nat.mul_le_mul_left _ (by rw [List.length_zip]; exact Nat.min_le_left _ _)
end K31
set_option Elab.async false
set_option pp.maxSteps 1200
set_option linter.all false
set_option maxRecDepth 100000
set_option maxHeartbeats 4000000
namespace K31
open PySem L2 My
/-! ### effects -/
abbrev Bf := Int × Bool
def BfR (K : PySem.W.Frag) (H : Hp) (v : V) (x : Bf) : Prop := ∃ q, v = .ref q ∧ SqT K H q [.int x.1, .bl x.2]
theorem BfR.ex {K : PySem.W.Frag} {H H' : Hp} {v : V} {x : Bf} (h : BfR K H v x) (e : Ex H H') : BfR K H' v x := let ⟨q, a, b⟩ := h; ⟨q, a, Evl.ex_t e b⟩
theorem BfR.exj {K : PySem.W.Frag} {H H' : Hp} {j : Addr} {ys : List V} {v : V} {x : Bf} (h : BfR K H v x) (e : Exj j H H') (hj : H j = some (.lst ys)) : BfR K H' v x := let ⟨q, a, b⟩ := h; ⟨q, a, sqT_exj e hj b⟩
abbrev eBf : Bf → PyData := eP PyData.int PyData.bool
theorem goodBf : Good eBf 1 := goodP goodI goodB
theorem BfR.dp {K : PySem.W.Frag} {H : Hp} {v : V} {x : Bf} (h : BfR K H v x) : Dp K H v (eBf x) := by
  obtain ⟨q, rfl, b⟩ := h
  exact .tup b (.cons (.int _) (.cons (.bl _) .nil))
abbrev StateE := (Int → Bf) × Option Int
def stepE (there : List Int) (st : StateE) (c : Cl) : StateE :=
  match rng there c.1 st.2 with
  | some n => (fun r => if r ∈ span there (there.idxOf n) c.2.toNat then st.1 n else st.1 r, st.2)
  | none => (fun r => if r = rowAt there c.2 then ((st.1 r).1, !(st.1 r).2) else st.1 r, some (rowAt there c.2))
def effE (there : List Int) (an : Option Int) (cs : List Cl) : StateE := cs.foldl (stepE there) (fun r => (r, false), an)
def effL (R : Nat) (there : List Int) (an : Option Int) (cs : List Cl) : List Bf := (upN R).map (effE there an cs).1
def RowsAt (K : PySem.W.Frag) (H : Hp) (us : List V) (R : Nat) (g : Int → Bf) : Prop := AllR (BfR K H) us ((upN R).map g)
theorem RowsAt.len {K : PySem.W.Frag} {H : Hp} {us : List V} {R : Nat} {g : Int → Bf} (h : RowsAt K H us R g) : us.length = R := by
  have := h.1
  rw [List.length_map, upN_len] at this
  exact this
theorem upN_at {R : Nat} {i : Nat} (h : i < R) : (upN R)[i]? = some ((i : Nat) : Int) := by
  unfold upN
  rw [List.getElem?_map, List.getElem?_range h]
  rfl
theorem RowsAt.get {K : PySem.W.Frag} {H : Hp} {us : List V} {R : Nat} {g : Int → Bf} (h : RowsAt K H us R g) {r : Int} (h0 : 0 ≤ r) (h1 : r < R) : ∃ q, atI us r = some (.ref q) ∧ SqT K H q [.int (g r).1, .bl (g r).2] := by
  have il : r.toNat < R := by omega
  have hx : ((upN R).map g)[r.toNat]? = some (g r) := by
    rw [List.getElem?_map, upN_at il]
    show some (g ((r.toNat : Nat) : Int)) = _
    rw [show ((r.toNat : Nat) : Int) = r by omega]
  obtain ⟨v, hv, q, rfl, hq⟩ := AllR.row h hx
  exact ⟨q, at_of (j := r.toNat) (by omega) hv, hq⟩
theorem RowsAt.set {K : PySem.W.Frag} {H : Hp} {us : List V} {R : Nat} {g : Int → Bf} (h : RowsAt K H us R g) {r : Int} (h0 : 0 ≤ r) {v : V} {x : Bf} (hv : BfR K H v x) : RowsAt K H (us.set r.toNat v) R (fun s => if s = r then x else g s) := by
  refine ⟨?_, fun i u y h1 h2 => ?_⟩
  · rw [List.length_set, h.len, List.length_map, upN_len]
  · have il : i < R := by
      have := (List.getElem?_eq_some_iff.mp h2).1
      rw [List.length_map, upN_len] at this
      exact this
    rw [List.getElem?_map, upN_at il] at h2
    have h2 : (if ((i : Nat) : Int) = r then x else g ((i : Nat) : Int)) = y := Option.some.inj h2
    by_cases e : i = r.toNat
    · rw [e, List.getElem?_set_self (by rw [h.len]; omega)] at h1
      cases h1
      rw [if_pos (by omega)] at h2
      rw [← h2]
      exact hv
    · rw [List.getElem?_set_ne (fun z => e z.symm)] at h1
      rw [if_neg (by omega)] at h2
      rw [← h2]
      exact h.2 i u _ h1 (by rw [List.getElem?_map, upN_at il]; rfl)
theorem RowsAt.congr {K : PySem.W.Frag} {H : Hp} {us : List V} {R : Nat} {g g' : Int → Bf} (h : RowsAt K H us R g) (e : ∀ r, g r = g' r) : RowsAt K H us R g' := by
  have : g = g' := funext e
  rw [← this]
  exact h
theorem ixN_row {n : Nat} {r : Int} (h0 : 0 ≤ r) (h1 : r < n) : ixN n r = some r.toNat := by
  unfold ixN
  rw [if_pos h0, if_pos h1]
def EInv (K : PySem.W.Frag) (R : Nat) (a b pd fd : Addr) (ns : List Int) (st : StateE) (H1 : Hp) (σ : L2.St) (H' : Hp) : Prop :=
  ∃ w6 w7 w8 w9 w10 w11 w12 us, σ = [some (.int (R : Nat)), some (.ref a), some (anV st.2), some (.ref b), some (.ref pd), some (.ref fd), w6, w7, w8, w9, w10, w11, w12] ∧ Ex H1 H' ∧ H' fd = some (.lst us) ∧ RowsAt K H' us R st.1
section
variable {w : World} {K : PySem.W.Frag} {mg : Str → Option Value} {base : Heap}
end
end K31
set_option Elab.async false
set_option pp.maxSteps 1200
set_option linter.all false
set_option maxRecDepth 100000
set_option maxHeartbeats 4000000
namespace K31
open PySem L2 My
def bestL (ns ms : List Int) : List Cl := clicksL (coverL (blocksL (bordersL ns ms)) 0)
def sp_cheapest_in (K : PySem.W.Frag) : Sp := fun vs H Q _ => ∃ (a m : Addr) (ns ms : List Int), vs = [.ref a, .ref m] ∧ SqL K H a (ns.map V.int) ∧ SqL K H m (ms.map V.int) ∧ ns.length ≤ 400 ∧ ∀ p H' us, H p = none → Ex H H' → H' p = some (.lst us) → AllR (IsCl K H') us (bestL ns ms) → Q (.ref p) H'
def sp_cheapest_clicks (K : PySem.W.Frag) : Sp := fun vs H Q _ => ∃ (a m : Addr) (ns ms : List Int), vs = [.ref a, .ref m] ∧ SqL K H a (ns.map V.int) ∧ SqL K H m (ms.map V.int) ∧ ns.Nodup ∧ ns.length ≤ 400 ∧ ms.Pairwise (· < ·) ∧ ms.length ≤ 1000 ∧ (∀ r ∈ ms, r ∈ ns) ∧ ∀ p H' us, H p = none → Ex H H' → H' p = some (.lst us) → AllR (IsCl K H') us (bestL ns ms) → Q (.ref p) H'
section
variable {w : World} {K : PySem.W.Frag} {mg : Str → Option Value} {base : Heap}
theorem ok_cheapest_in (T : Txt K mg) : FnOk PR w K mg base CX0 3 T.a_cheapest_in T.d_cheapest_in ["there", "marks"] (sp_cheapest_in K) := by
  refine T.f_cheapest_in.ok sc_cheapest_in (fun vs H Q E h => ?_) (fun cdv A outer s H vs Q E hr h => ?_)
  · obtain ⟨a, m, ns, ms, rfl, _⟩ := h
    rfl
  · obtain ⟨a, m, ns, ms, rfl, ha, hm, nl, k⟩ := h
    refine ⟨_, (pss_one (ps_ret (pe_call (ok_clicks_in T) (hr.mono (by decide)) (by rfl) T.g_clicks_in T.f_clicks_in.kp (b_clicks_in T) .nil pass0 (pa_cons (pe_call (ok_cover_in T) (hr.mono (by decide)) (by rfl) T.g_cover_in T.f_cover_in.kp (b_cover_in T) .nil pass0 (pa_cons (pv 0) (pa_cons (pv 1) (pa_cons pe_int pa_nil)))) pa_nil)))), ?_⟩
    refine ⟨_, rfl, _, rfl, a, m, ns, ms, 0, rfl, ha, hm, nl, Int.le_refl _, fun p1 H1 us n1 e1 h1 a1 => ?_⟩
    have bl := borders_len ns ms
    have kl := blocks_len (bordersL ns ms)
    have cl := cover_len (blocksL (bordersL ns ms)) (fun kk hk => by
      have := blocks_in hk
      omega) 0
    refine ⟨p1, us, _, rfl, sqI h1, a1, by omega, singles_even ns ms 0, fun p2 H2 us2 n2 e2 h2 a2 => k p2 H2 us2 (none_of e1 n2) (e1.trans e2) h2 a2⟩
theorem ok_cheapest_clicks (T : Txt K mg) : FnOk PR w K mg base (L2.CX PR w) 4 T.a_cheapest_clicks T.d_cheapest_clicks ["there", "marks"] (sp_cheapest_clicks K) := by
  refine T.f_cheapest_clicks.okX sc_cheapest_clicks (fun vs H Q E h => ?_) (fun cdv A outer s H vs Q E hr h => ?_)
  · obtain ⟨a, m, ns, ms, rfl, _⟩ := h
    rfl
  · obtain ⟨a, m, ns, ms, rfl, ha, hm, nd, nl, pw, ml, sub, k⟩ := h
    refine ⟨_, (pss_cons (ps_expr (pe_call (ok_check_there T) (hr.mono (by decide)) (by rfl) T.g_check_there T.f_check_there.kp (b_check_there T) .nil passX (pa_cons (pv 0) pa_nil))) (pss_cons (ps_expr (pe_call (ok_check_marks_there T) (hr.mono (by decide)) (by rfl) T.g_check_marks_there T.f_check_marks_there.kp (b_check_marks_there T) .nil passX (pa_cons (pv 0) (pa_cons (pv 1) pa_nil)))) (pss_one (ps_ret (pe_call (ok_cheapest_in T) (hr.mono (by decide)) (by rfl) T.g_cheapest_in T.f_cheapest_in.kp (b_cheapest_in T) .nil pass0 (pa_cons (pv 0) (pa_cons (pv 1) pa_nil))))))), ?_⟩
    refine ⟨_, rfl, a, ns, rfl, ha, nd, by omega, ?_⟩
    refine ⟨_, rfl, _, rfl, a, m, ns, ms, rfl, ha, hm, by omega, pw, ml, sub, fun H1 e1 => ?_⟩
    exact ⟨_, rfl, _, rfl, a, m, ns, ms, rfl, Evl.ex_l e1 ha, Evl.ex_l e1 hm, nl, fun p H2 us n2 e2 h2 a2 => k p H2 us (none_of e1 n2) (e1.trans e2) h2 a2⟩
end
end K31
set_option Elab.async false
set_option pp.maxSteps 1200
set_option linter.all false
set_option maxRecDepth 100000
set_option maxHeartbeats 4000000
namespace K31
open PySem L2 My
/-! states by positions (as in K27) -/
abbrev Sc := List Bool × Option Nat
def movesC (n : Nat) : List (Bool × Nat) := (List.range n).map (fun p => (false, p)) ++ (List.range n).map fun p => (true, p)
def fillC (fl : List Bool) (a p : Nat) : List Bool := (List.range fl.length).map fun i => if min a p ≤ i ∧ i ≤ max a p then fl.getD a false else fl.getD i false
def stepC (st : Sc) (m : Bool × Nat) : Sc := if m.1 = true ∧ st.2.isSome = true then (fillC st.1 (st.2.getD 0) m.2, st.2) else (st.1.set m.2 (!st.1.getD m.2 false), some m.2)
def flagsC (fl : List Bool) : List Bool := [false] ++ fl ++ [false]
def bordersC (fl : List Bool) : List Int := ((List.range (fl.length + 1)).map fun i => (0 : Int) + ((i : Nat) : Int)).filter fun p => !decide ((flagsC fl).getD p.toNat false = (flagsC fl).getD (p.toNat + 1) false)
def costC (fl : List Bool) : Int := ((blocksL (bordersC fl)).map costB).sum
theorem costL_C (ns ms : List Int) : costL ns ms = costC (ns.map fun r => decide (r ∈ ms)) := by
  unfold costL costC bordersL bordersC
  rw [List.length_map]
  rfl
end K31
set_option Elab.async false
set_option pp.maxSteps 1200
set_option linter.all false
set_option maxRecDepth 100000
set_option maxHeartbeats 4000000
namespace K31
open PySem L2 My
/-! states by names and by positions -/
theorem span_mem {l : List Int} {a b : Nat} {r : Int} : r ∈ span l a b ↔ ∃ i, min a b ≤ i ∧ i ≤ max a b ∧ l[i]? = some r := by
  unfold span
  rw [List.mem_iff_getElem?]
  constructor
  · rintro ⟨j, hj⟩
    have jl : j < max a b + 1 - min a b := by
      have := (List.getElem?_eq_some_iff.mp hj).1
      rw [List.length_take] at this
      omega
    rw [List.getElem?_take_of_lt jl, List.getElem?_drop] at hj
    exact ⟨min a b + j, by omega, by omega, hj⟩
  · rintro ⟨i, h1, h2, h3⟩
    refine ⟨i - min a b, ?_⟩
    rw [List.getElem?_take_of_lt (by omega), List.getElem?_drop, show min a b + (i - min a b) = i by omega]
    exact h3
theorem inj_at {ns : List Int} (nd : ns.Nodup) {i j : Nat} {r : Int} (h1 : ns[i]? = some r) (h2 : ns[j]? = some r) : i = j := by
  obtain ⟨a, e1⟩ := List.getElem?_eq_some_iff.mp h1
  obtain ⟨b, e2⟩ := List.getElem?_eq_some_iff.mp h2
  exact nodup_inj nd a b (e1.trans e2.symm)
def srtM (ns : List Int) (fl : List Bool) : List Int := (((ns.zip fl).filter (·.2)).map (·.1)).mergeSort fun a b => decide (a ≤ b)
theorem srt_mem {ns : List Int} {fl : List Bool} {r : Int} : r ∈ srtM ns fl ↔ ∃ i : Nat, ns[i]? = some r ∧ fl[i]? = some true := by
  unfold srtM
  rw [(List.mergeSort_perm _ _).mem_iff, List.mem_map]
  constructor
  · rintro ⟨⟨x, b⟩, hm, rfl⟩
    obtain ⟨h1, h2⟩ := List.mem_filter.mp hm
    obtain ⟨i, hi⟩ := List.mem_iff_getElem?.mp h1
    obtain ⟨e1, e2⟩ := List.getElem?_zip_eq_some.mp hi
    exact ⟨i, e1, by rw [e2]; exact congrArg some h2⟩
  · rintro ⟨i, h1, h2⟩
    exact ⟨(r, true), List.mem_filter.mpr ⟨List.mem_iff_getElem?.mpr ⟨i, List.getElem?_zip_eq_some.mpr ⟨h1, h2⟩⟩, rfl⟩, rfl⟩
theorem srt_asc {ns : List Int} {fl : List Bool} (nd : ns.Nodup) (hl : fl.length = ns.length) : (srtM ns fl).Pairwise (· < ·) := by
  refine asc_of (List.mergeSort_perm _ _) ?_ ?_
  · exact (List.pairwise_mergeSort (le := fun a b : Int => decide (a ≤ b)) (fun a b c h1 h2 => by simp at h1 h2 ⊢; omega) (fun a b => by simp; omega) _).imp fun {a b} h => by simpa using h
  · refine List.Nodup.sublist (List.Sublist.map _ List.filter_sublist) ?_
    rw [List.map_fst_zip (by omega)]
    exact nd
theorem srt_sub {ns : List Int} {fl : List Bool} {r : Int} (h : r ∈ srtM ns fl) : r ∈ ns := by
  obtain ⟨i, h1, _⟩ := srt_mem.mp h
  exact List.mem_of_getElem? h1
theorem srt_at {ns : List Int} {fl : List Bool} (nd : ns.Nodup) (hl : fl.length = ns.length) {i : Nat} {r : Int} (h : ns[i]? = some r) : r ∈ srtM ns fl ↔ fl.getD i false = true := by
  have hi : i < fl.length := by rw [hl]; exact (List.getElem?_eq_some_iff.mp h).1
  rw [srt_mem, List.getD_eq_getElem?_getD, List.getElem?_eq_getElem hi]
  constructor
  · rintro ⟨j, h1, h2⟩
    obtain rfl := inj_at nd h h1
    rw [List.getElem?_eq_getElem hi] at h2
    exact Option.some.inj h2
  · intro e
    exact ⟨i, h, by rw [List.getElem?_eq_getElem hi]; exact congrArg some e⟩
theorem srt_len {ns : List Int} {fl : List Bool} (nd : ns.Nodup) (hl : fl.length = ns.length) : (srtM ns fl).length ≤ ns.length := nodup_len (pw_nodup (srt_asc nd hl)) fun r hr => srt_sub hr
theorem flag_ext {f g : List Bool} {n : Nat} (hf : f.length = n) (hg : g.length = n) (h : ∀ i, i < n → f.getD i false = g.getD i false) : f = g := by
  refine List.ext_getElem (hf.trans hg.symm) fun i h1 h2 => ?_
  have := h i (by omega)
  rw [List.getD_eq_getElem?_getD, List.getD_eq_getElem?_getD, List.getElem?_eq_getElem h1, List.getElem?_eq_getElem h2] at this
  exact this
theorem srt_inj {ns : List Int} (nd : ns.Nodup) {f g : List Bool} (hf : f.length = ns.length) (hg : g.length = ns.length) (e : srtM ns f = srtM ns g) : f = g := by
  refine flag_ext hf hg fun i hi => ?_
  have hr : ns[i]? = some ns[i] := List.getElem?_eq_getElem hi
  have := srt_at nd hf hr
  rw [e, srt_at nd hg hr] at this
  rw [Bool.eq_iff_iff]
  exact this.symm
def valA (ns : List Int) (a : Option Nat) : Option Int := a.map fun p => ns.getD p 0
structure VS (n : Nat) (st : Sc) : Prop where
  len : st.1.length = n
  anc : ∀ p, st.2 = some p → p < n
theorem get_row {ns : List Int} {p : Nat} (h : p < ns.length) : ns[p]? = some (ns.getD p 0) := by
  rw [List.getD_eq_getElem?_getD, List.getElem?_eq_getElem h]
  rfl
theorem set_getD {f : List Bool} {p i : Nat} {b : Bool} (h : p < f.length) : (f.set p b).getD i false = if i = p then b else f.getD i false := by
  rw [List.getD_eq_getElem?_getD, List.getElem?_set]
  by_cases e : p = i
  · subst e
    rw [if_pos rfl, if_pos h, if_pos rfl]
    rfl
  · rw [if_neg e, if_neg (fun z => e z.symm), List.getD_eq_getElem?_getD]
theorem fill_getD {f : List Bool} {a p i : Nat} (h : i < f.length) : (fillC f a p).getD i false = if min a p ≤ i ∧ i ≤ max a p then f.getD a false else f.getD i false := by
  unfold fillC
  rw [List.getD_eq_getElem?_getD, List.getElem?_map, List.getElem?_range h]
  rfl
def wordC (b : Bool) : Str := if b = true then "range" else "click"
theorem step_rel {ns : List Int} (nd : ns.Nodup) {st : Sc} (v : VS ns.length st) {b : Bool} {p : Nat} (hp : p < ns.length) :
    VS ns.length (stepC st (b, p)) ∧ (done ns (srtM ns st.1) (valA ns st.2) [(wordC b, (p : Int))]).2 = valA ns (stepC st (b, p)).2 ∧ ∀ i r, ns[i]? = some r → (done ns (srtM ns st.1) (valA ns st.2) [(wordC b, (p : Int))]).1 r = (stepC st (b, p)).1.getD i false := by
  obtain ⟨f, a⟩ := st
  have hl : f.length = ns.length := v.len
  have flag : ∀ {i r}, ns[i]? = some r → decide (r ∈ srtM ns f) = f.getD i false := fun {i r} h => by
    rw [Bool.eq_iff_iff, decide_eq_true_iff]
    exact srt_at nd hl h
  have click : rng ns (wordC b) (valA ns a) = none → stepC (f, a) (b, p) = (f.set p (!f.getD p false), some p) → VS ns.length (stepC (f, a) (b, p)) ∧ (done ns (srtM ns f) (valA ns a) [(wordC b, (p : Int))]).2 = valA ns (stepC (f, a) (b, p)).2 ∧ ∀ i r, ns[i]? = some r → (done ns (srtM ns f) (valA ns a) [(wordC b, (p : Int))]).1 r = (stepC (f, a) (b, p)).1.getD i false := fun h e => by
    have ed : done ns (srtM ns f) (valA ns a) [(wordC b, (p : Int))] = (fun r => if r = rowAt ns p then !decide (r ∈ srtM ns f) else decide (r ∈ srtM ns f), some (rowAt ns p)) := step_cl h
    rw [ed, e]
    refine ⟨⟨by show (f.set _ _).length = _; rw [List.length_set]; exact hl, fun q hq => by cases hq; exact hp⟩, rfl, fun i r hr => ?_⟩
    have er : (r = rowAt ns (p : Int)) ↔ i = p := by
      constructor
      · intro z
        exact inj_at nd hr (by rw [z]; exact get_row hp)
      · intro z
        have := get_row hp
        rw [← z, hr] at this
        rw [Option.some.inj this, z]
        rfl
    show (if r = rowAt ns (p : Int) then _ else _) = _
    rw [set_getD (by omega), flag hr]
    by_cases z : i = p
    · rw [if_pos (er.mpr z), if_pos z, z]
    · rw [if_neg (fun y => z (er.mp y)), if_neg z]
  cases b with
  | false =>
    refine click ?_ ?_
    · unfold rng
      cases valA ns a with
      | none => rfl
      | some n => exact if_neg (fun z => absurd z.1 (by decide))
    · unfold stepC
      rw [if_neg (fun z => Bool.noConfusion z.1)]
  | true =>
    cases a with
    | none =>
      refine click rfl ?_
      unfold stepC
      rw [if_neg (fun z => Bool.noConfusion z.2)]
    | some q =>
      have hq : q < ns.length := v.anc q rfl
      have gq := get_row hq
      have hm : ns.getD q 0 ∈ ns := List.mem_of_getElem? gq
      have hr : rng ns (wordC true) (valA ns (some q)) = some (ns.getD q 0) := by
        show (if wordC true = "range" ∧ ns.getD q 0 ∈ ns then some (ns.getD q 0) else none) = _
        rw [if_pos ⟨rfl, hm⟩]
      have e : stepC (f, some q) (true, p) = (fillC f q p, some q) := by
        unfold stepC
        rw [if_pos ⟨rfl, rfl⟩]
        rfl
      have ed : done ns (srtM ns f) (valA ns (some q)) [(wordC true, (p : Int))] = (fun r => if r ∈ span ns (ns.idxOf (ns.getD q 0)) p then decide (ns.getD q 0 ∈ srtM ns f) else decide (r ∈ srtM ns f), valA ns (some q)) := step_rng hr
      rw [ed, e, idx_of nd gq]
      refine ⟨⟨by show (fillC f q p).length = _; unfold fillC; rw [List.length_map, List.length_range]; exact hl, fun q' hq' => by cases hq'; exact hq⟩, rfl, fun i r hir => ?_⟩
      have hi : i < f.length := by rw [hl]; exact (List.getElem?_eq_some_iff.mp hir).1
      have er : r ∈ span ns q p ↔ min q p ≤ i ∧ i ≤ max q p := by
        rw [span_mem]
        constructor
        · rintro ⟨j, h1, h2, h3⟩
          obtain rfl := inj_at nd hir h3
          exact ⟨h1, h2⟩
        · rintro ⟨h1, h2⟩
          exact ⟨i, h1, h2, hir⟩
      show (if r ∈ span ns q p then _ else _) = _
      rw [fill_getD hi, flag gq, flag hir]
      by_cases z : min q p ≤ i ∧ i ≤ max q p
      · rw [if_pos (er.mpr z), if_pos z]
      · rw [if_neg (fun y => z (er.mp y)), if_neg z]
theorem rs_srt {ns : List Int} (nd : ns.Nodup) {st : Sc} (v : VS ns.length st) {b : Bool} {p : Nat} (hp : p < ns.length) {rs : List Int} (pw : rs.Pairwise (· < ·)) (hi : ∀ r, r ∈ rs ↔ (done ns (srtM ns st.1) (valA ns st.2) [(wordC b, (p : Int))]).1 r = true) (hs : ∀ r ∈ rs, r ∈ srtM ns st.1 ++ ns) : rs = srtM ns (stepC st (b, p)).1 := by
  obtain ⟨v', _, h⟩ := step_rel nd v (b := b) hp
  have inns : ∀ r ∈ rs, r ∈ ns := fun r hr => (List.mem_append.mp (hs r hr)).elim srt_sub id
  refine asc_unique pw (srt_asc nd v'.len) fun r => ?_
  constructor
  · intro hr
    obtain ⟨i, hir⟩ := List.mem_iff_getElem?.mp (inns r hr)
    rw [srt_at nd v'.len hir, ← h i r hir]
    exact (hi r).mp hr
  · intro hr
    obtain ⟨i, hir⟩ := List.mem_iff_getElem?.mp (srt_sub hr)
    rw [hi, h i r hir]
    exact (srt_at nd v'.len hir).mp hr
end K31
set_option Elab.async false
set_option pp.maxSteps 1200
set_option linter.all false
set_option maxRecDepth 100000
set_option maxHeartbeats 4000000
namespace K31
open PySem L2 My
/-! blocks from the front, turned about, moved -/
def addF (a : Int) (bs : List Bk) : List Bk := match bs with
  | [] => [(a, a)]
  | k :: r => if k.1 = a + 1 then (a, k.2) :: r else (a, a) :: k :: r
theorem addB_nil (b : Int) : addB [] b = [(b, b)] := rfl
theorem addB_one (k : Bk) (b : Int) : addB [k] b = if k.2 = b - 1 then [(k.1, b)] else [k, (b, b)] := addB_snoc [] k b
theorem addB_cons (k l : Bk) (bs : List Bk) (b : Int) : addB (k :: l :: bs) b = k :: addB (l :: bs) b := by
  obtain ⟨m, x, e⟩ : ∃ m x, l :: bs = m ++ [x] := ⟨_, _, (List.dropLast_concat_getLast (by simp)).symm⟩
  rw [e, show k :: (m ++ [x]) = (k :: m) ++ [x] from rfl, addB_snoc, addB_snoc]
  split <;> rfl
theorem addB_ne (bs : List Bk) (b : Int) : addB bs b ≠ [] := by
  unfold addB
  split
  · simp
  · split <;> simp
theorem add_comm (a b : Int) : ∀ bs : List Bk, addF a (addB bs b) = addB (addF a bs) b
  | [] => by
    rw [addB_nil]
    show addF a [(b, b)] = addB [(a, a)] b
    rw [addB_one]
    show (if b = a + 1 then [(a, b)] else [(a, a), (b, b)]) = if a = b - 1 then [(a, b)] else [(a, a), (b, b)]
    by_cases e : b = a + 1
    · rw [if_pos e, if_pos (show a = b - 1 by omega)]
    · rw [if_neg e, if_neg (show ¬ a = b - 1 by omega)]
  | [k] => by
    rw [addB_one]
    by_cases e : k.2 = b - 1
    · rw [if_pos e]
      unfold addF
      by_cases d : k.1 = a + 1
      · simp only [if_pos d]
        rw [addB_one, if_pos e]
      · simp only [if_neg d]
        rw [addB_cons, addB_one, if_pos e]
    · rw [if_neg e]
      unfold addF
      by_cases d : k.1 = a + 1
      · simp only [if_pos d]
        rw [addB_one, if_neg e]
      · simp only [if_neg d]
        rw [addB_cons, addB_one, if_neg e]
  | k :: l :: bs => by
    rw [addB_cons]
    unfold addF
    by_cases d : k.1 = a + 1
    · simp only [if_pos d]
      rw [addB_cons]
    · simp only [if_neg d]
      rw [addB_cons, addB_cons]
theorem fold_front (a : Int) : ∀ (ps : List Int) (bs : List Bk), ps.foldl addB (addF a bs) = addF a (ps.foldl addB bs)
  | [], _ => rfl
  | p :: ps, bs => by
    rw [List.foldl_cons, List.foldl_cons, ← add_comm, fold_front a ps]
theorem blocks_cons (p : Int) (ps : List Int) : blocksL (p :: ps) = addF p (blocksL ps) := fold_front p ps []
theorem blocks_front : ∀ ps : List Int, blocksL ps = ps.foldr addF []
  | [] => rfl
  | p :: ps => by rw [blocks_cons, blocks_front ps]; rfl
def mirB (S : Int) (k : Bk) : Bk := (S - k.2, S - k.1)
theorem add_mir (S p : Int) (bs : List Bk) : addB ((bs.map (mirB S)).reverse) (S - p) = ((addF p bs).map (mirB S)).reverse := by
  cases bs with
  | nil => rfl
  | cons k r =>
    have ea : addF p (k :: r) = if k.1 = p + 1 then (p, k.2) :: r else (p, p) :: k :: r := rfl
    rw [List.map_cons, List.reverse_cons, addB_snoc, ea]
    by_cases e : k.1 = p + 1
    · rw [if_pos (show (mirB S k).2 = S - p - 1 by show S - k.1 = _; omega), if_pos e, List.map_cons, List.reverse_cons]
      rfl
    · rw [if_neg (show ¬ (mirB S k).2 = S - p - 1 by show ¬ S - k.1 = _; omega), if_neg e, List.map_cons, List.map_cons, List.reverse_cons, List.reverse_cons]
      rfl
theorem blocks_mir (S : Int) : ∀ ps : List Int, blocksL ((ps.map fun p => S - p).reverse) = ((blocksL ps).map (mirB S)).reverse
  | [] => rfl
  | p :: ps => by
    rw [blocks_cons, ← add_mir, ← blocks_mir S ps, List.map_cons, List.reverse_cons]
    unfold blocksL
    rw [List.foldl_append]
    rfl
def shB (d : Int) (k : Bk) : Bk := (k.1 + d, k.2 + d)
theorem add_sh (d p : Int) (bs : List Bk) : addF (p + d) (bs.map (shB d)) = (addF p bs).map (shB d) := by
  cases bs with
  | nil => rfl
  | cons k r =>
    unfold addF
    rw [List.map_cons]
    by_cases e : k.1 = p + 1
    · simp only [if_pos (show (shB d k).1 = p + d + 1 by show k.1 + d = _; omega), if_pos e]
      rfl
    · simp only [if_neg (show ¬ (shB d k).1 = p + d + 1 by show ¬ k.1 + d = _; omega), if_neg e]
      rfl
theorem blocks_sh (d : Int) : ∀ ps : List Int, blocksL (ps.map fun p => p + d) = (blocksL ps).map (shB d)
  | [] => rfl
  | p :: ps => by
    rw [List.map_cons, blocks_cons, blocks_cons, blocks_sh d ps, add_sh]
theorem cost_mir (S : Int) (k : Bk) : costB (mirB S k) = costB k := by
  unfold costB mirB
  show (S - k.1 - (S - k.2) + 2) / 2 = _
  rw [show S - k.1 - (S - k.2) + 2 = k.2 - k.1 + 2 by omega]
theorem num_mir (S : Int) (k : Bk) : numB (mirB S k) = numB k := by
  unfold numB mirB
  show (if (S - k.1 - (S - k.2) + 1) % 2 = 1 then _ else _) = _
  rw [show S - k.1 - (S - k.2) + 1 = k.2 - k.1 + 1 by omega]
theorem cost_sh (d : Int) (k : Bk) : costB (shB d k) = costB k := by
  unfold costB shB
  show (k.2 + d - (k.1 + d) + 2) / 2 = _
  rw [show k.2 + d - (k.1 + d) + 2 = k.2 - k.1 + 2 by omega]
theorem num_sh (d : Int) (k : Bk) : numB (shB d k) = numB k := by
  unfold numB shB
  show (if (k.2 + d - (k.1 + d) + 1) % 2 = 1 then _ else _) = _
  rw [show k.2 + d - (k.1 + d) + 1 = k.2 - k.1 + 1 by omega]
theorem foldl_mul : ∀ (l : List Int) (z : Int), l.foldl (· * ·) z = z * l.foldl (· * ·) 1
  | [], z => by simp
  | x :: l, z => by
    rw [List.foldl_cons, List.foldl_cons, foldl_mul l (z * x), foldl_mul l (1 * x), Int.one_mul, Int.mul_assoc]
theorem foldl_mul_app (a b : List Int) : (a ++ b).foldl (· * ·) 1 = a.foldl (· * ·) 1 * b.foldl (· * ·) 1 := by
  rw [List.foldl_append, foldl_mul]
theorem foldl_mul_rev : ∀ l : List Int, l.reverse.foldl (· * ·) 1 = l.foldl (· * ·) 1
  | [] => rfl
  | x :: l => by
    rw [List.reverse_cons, foldl_mul_app, foldl_mul_rev l, List.foldl_cons, List.foldl_nil, List.foldl_cons, Int.one_mul, foldl_mul l x, Int.mul_comm]
/-! turned about: borders, cost, number of covers -/
theorem chgs_rev (f f' : Nat → Bool) (N : Nat) (h : ∀ p, p ≤ N → f' p = f (N - p)) : chgs f' N = ((chgs f N).reverse).map fun i => N - 1 - i := by
  have hr : List.range N = ((List.range N).reverse).map fun i => N - 1 - i := by
    refine List.ext_getElem? fun i => ?_
    by_cases hi : i < N
    · rw [List.getElem?_map, List.getElem?_reverse (by simpa using hi), List.length_range, List.getElem?_range hi, List.getElem?_range (by omega)]
      show some i = some (N - 1 - (N - 1 - i))
      congr 1
      omega
    · rw [List.getElem?_eq_none (by simpa using hi), List.getElem?_eq_none (by simpa using hi)]
  unfold chgs
  conv => lhs; rw [hr]
  rw [List.filter_map, List.filter_reverse]
  congr 2
  refine List.filter_congr fun i hi => ?_
  have hi := List.mem_range.mp hi
  show (!decide (f' (N - 1 - i) = f' (N - 1 - i + 1))) = !decide (f i = f (i + 1))
  rw [h _ (by omega), h _ (by omega), show N - (N - 1 - i) = i + 1 by omega, show N - (N - 1 - i + 1) = i by omega]
  congr 1
  rw [decide_eq_decide]
  exact ⟨Eq.symm, Eq.symm⟩
theorem flag_rev (ns ms : List Int) (p : Nat) (h : p ≤ ns.length + 1) : (flagL ns.reverse ms).getD p false = (flagL ns ms).getD (ns.length + 1 - p) false := by
  have e : flagL ns.reverse ms = (flagL ns ms).reverse := by
    unfold flagL
    simp
  have fl : (flagL ns ms).length = ns.length + 2 := by simp [flagL]
  rw [e, List.getD_eq_getElem?_getD, List.getD_eq_getElem?_getD, List.getElem?_reverse (by omega), fl]
  rw [show ns.length + 2 - 1 - p = ns.length + 1 - p by omega]
theorem borders_rev (ns ms : List Int) : bordersL ns.reverse ms = ((bordersL ns ms).map fun b => (ns.length : Int) - b).reverse := by
  rw [borders_chgs, borders_chgs, List.length_reverse, chgs_rev (fun p => (flagL ns ms).getD p false) (fun p => (flagL ns.reverse ms).getD p false) _ (fun p hp => flag_rev ns ms p hp), List.map_map, List.map_map, ← List.map_reverse]
  refine List.map_congr_left fun i hi => ?_
  have := List.mem_range.mp (List.mem_filter.mp (List.mem_reverse.mp hi)).1
  show ((ns.length + 1 - 1 - i : Nat) : Int) = (ns.length : Int) - (i : Int)
  omega
theorem cost_rev (ns ms : List Int) : costL ns.reverse ms = costL ns ms := by
  unfold costL
  rw [borders_rev, blocks_mir, List.map_reverse, List.sum_reverse, List.map_map]
  congr 2
  funext k
  exact cost_mir _ k
theorem count_rev (ns ms : List Int) : countL ns.reverse ms = countL ns ms := by
  unfold countL
  rw [borders_rev, blocks_mir, List.map_reverse, foldl_mul_rev, List.map_map]
  congr 2
  funext k
  exact num_mir _ k
end K31
set_option Elab.async false
set_option pp.maxSteps 1200
set_option pp.maxSteps 1200
set_option linter.all false
set_option maxRecDepth 100000
set_option maxHeartbeats 4000000
namespace K31
open PySem L2 My
/-! the best clicks are as many as the cost -/
theorem coverGo_tok (k : Bk) (c : Int) : ∀ n b, ∀ t ∈ coverGo k c n b, t.length = 1 ∨ t.length = 2
  | 0, _, t, h => by cases h
  | n + 1, b, t, h => by
    unfold coverGo at h
    split at h
    · split at h
      · rcases List.mem_cons.mp h with z | z
        · rw [z]; exact .inl rfl
        · exact coverGo_tok k c n _ t z
      · rcases List.mem_cons.mp h with z | z
        · rw [z]; exact .inr rfl
        · exact coverGo_tok k c n _ t z
    · cases h
theorem tok_count : ∀ l : List (List Int), (∀ t ∈ l, t.length = 1 ∨ t.length = 2) → (singlesL l).length + (l.filter fun t => decide (t.length = 2)).length = l.length
  | [], _ => rfl
  | t :: l, h => by
    have ih := tok_count l fun x hx => h x (List.mem_cons_of_mem _ hx)
    have e : singlesL (t :: l) = singlesL [t] ++ singlesL l := singles_app [t] l
    rw [e, List.length_append, List.filter_cons, List.length_cons]
    rcases h t List.mem_cons_self with z | z
    · rw [if_neg (by simp [z])]
      have : (singlesL [t]).length = 1 := by
        unfold singlesL
        rw [List.filter_cons, if_pos (decide_eq_true z)]
        rfl
      omega
    · rw [if_pos (decide_eq_true z), List.length_cons]
      have : (singlesL [t]).length = 0 := by
        unfold singlesL
        rw [List.filter_cons, if_neg (by simp [z])]
        rfl
      omega
theorem pairs_even : ∀ l : List Int, l.length % 2 = 0 → (pairsL l).length = l.length
  | [], _ => rfl
  | [x], h => by simp at h
  | x :: y :: l, h => by
    have := pairs_even l (by simp only [List.length_cons] at h; omega)
    show (pairsL l).length + 1 + 1 = l.length + 1 + 1
    omega
/-- without a single token ahead: pairs alone -/
theorem go_len_none (k : Bk) (c : Int) : ∀ (n : Nat) (b : Int), ((k.2 - k.1) % 2 ≠ 0 ∨ b > k.1 + 2 * c) → b ≤ k.2 + 1 → (k.2 - b + 1) % 2 = 0 → (k.2 - b + 1).toNat ≤ n → ((coverGo k c n b).length : Int) = (k.2 - b + 1) / 2
  | 0, b, _, h1, h2, h3 => by
    show (0 : Int) = _
    omega
  | n + 1, b, h, h1, h2, h3 => by
    unfold coverGo
    split
    · rw [if_neg (fun z => by rcases h with h | h; exact h z.1; omega), List.length_cons]
      have := go_len_none k c n (b + 2) (h.imp id fun z => by omega) (by omega) (by omega) (by omega)
      omega
    · show (0 : Int) = _
      omega
theorem go_len_one (k : Bk) (c : Int) (h : (k.2 - k.1) % 2 = 0) (hc : k.1 + 2 * c ≤ k.2) : ∀ (n : Nat) (b : Int), b ≤ k.1 + 2 * c → (k.1 + 2 * c - b) % 2 = 0 → (k.2 - b + 1).toNat ≤ n → ((coverGo k c n b).length : Int) = (k.2 - b + 2) / 2
  | 0, b, h1, _, h3 => by omega
  | n + 1, b, h1, h2, h3 => by
    unfold coverGo
    rw [if_pos (by omega)]
    by_cases e : b = k.1 + 2 * c
    · rw [if_pos ⟨h, e⟩, List.length_cons]
      have := go_len_none k c n (b + 1) (.inr (by omega)) (by omega) (by omega) (by omega)
      omega
    · rw [if_neg (fun z => e z.2), List.length_cons]
      have := go_len_one k c h hc n (b + 2) (by omega) (by omega) (by omega)
      omega
theorem coverB_cost {k : Bk} {c : Int} (hk : k.1 ≤ k.2) (h0 : 0 ≤ c) (h1 : c < numB k) : ((coverB k c).length : Int) = costB k := by
  unfold coverB costB
  by_cases e : (k.2 - k.1) % 2 = 0
  · unfold numB at h1
    rw [if_pos (by omega)] at h1
    rw [go_len_one k c e (by omega) _ _ (by omega) (by omega) (Nat.le_refl _)]
  · rw [go_len_none k c _ _ (.inl e) (by omega) (by omega) (Nat.le_refl _)]
    omega
theorem coverL_cost (bs : List Bk) (hb : ∀ k ∈ bs, k.1 ≤ k.2) (ix : Int) : ((coverL bs ix).length : Int) = (bs.map costB).sum := by
  have go : ∀ (l : List (Bk × Int)), (∀ kc ∈ l, kc.1.1 ≤ kc.1.2 ∧ 0 ≤ kc.2 ∧ kc.2 < numB kc.1) → ((l.flatMap fun kc => coverB kc.1 kc.2).length : Int) = (l.map fun kc => costB kc.1).sum := fun l => by
    induction l with
    | nil => intro _; rfl
    | cons kc l ih =>
      intro h
      have h1 := ih fun x hx => h x (List.mem_cons_of_mem _ hx)
      obtain ⟨a, b, c⟩ := h kc List.mem_cons_self
      have h2 := coverB_cost a b c
      rw [List.flatMap_cons, List.length_append, List.map_cons, List.sum_cons, ← h1, ← h2]
      omega
  have z : ∀ (bs : List Bk) (cs : List Int), cs.length = bs.length → ((bs.zip cs).map fun kc => costB kc.1) = bs.map costB := fun bs => by
    induction bs with
    | nil => intro _ _; rfl
    | cons b bs ih =>
      intro cs h
      cases cs with
      | nil => cases h
      | cons c cs => exact congrArg (costB b :: ·) (ih cs (by simpa using h))
  unfold coverL
  rw [go _ fun kc hk => by
    obtain ⟨a, b, c⟩ := choice_ok hb ix hk
    exact ⟨hb _ a, b, c⟩, z _ _ (by rw [List.length_reverse, chG_len]; simp)]
theorem best_len (ns ms : List Int) : ((bestL ns ms).length : Int) = costL ns ms := by
  have hb := blocks_le (bordersL ns ms)
  have ev := singles_even ns ms 0
  have tk : ∀ t ∈ coverL (blocksL (bordersL ns ms)) 0, t.length = 1 ∨ t.length = 2 := fun t ht => by
    obtain ⟨kc, _, h⟩ := List.mem_flatMap.mp ht
    exact coverGo_tok _ _ _ _ t h
  have tc := tok_count _ tk
  have cc := coverL_cost _ hb 0
  unfold bestL clicksL
  rw [List.length_append, pairs_even _ ev, List.length_map, tc, cc]
  rfl
end K31
set_option Elab.async false
set_option pp.maxSteps 1200
set_option linter.all false
set_option maxRecDepth 100000
set_option maxHeartbeats 4000000
namespace K31
open PySem L2 My
abbrev Mv := Bool × Nat
def anP : Option Nat → V
  | none => .non
  | some p => .int (p : Nat)
def MvR (K : PySem.W.Frag) (H : Hp) (v : V) (m : Mv) : Prop := ∃ q, v = .ref q ∧ SqT K H q [.str (wordC m.1), .int (m.2 : Nat)]
theorem MvR.keep {K : PySem.W.Frag} {H H' : Hp} {j : Addr} {v : V} {m : Mv} (e : Exj j H H') (n : NTup H j) : MvR K H v m → MvR K H' v m
  | ⟨q, h1, h2⟩ => ⟨q, h1, sqT_keep e n h2⟩
theorem MvR.ex {K : PySem.W.Frag} {H H' : Hp} {v : V} {m : Mv} (e : Ex H H') : MvR K H v m → MvR K H' v m
  | ⟨q, h1, h2⟩ => ⟨q, h1, sqT_exN e h2⟩
/-- a state: (flags, anchor) -/
def StP (K : PySem.W.Frag) (H : Hp) (v : V) (st : Sc) : Prop := ∃ q r, v = .ref q ∧ SqT K H q [.ref r, anP st.2] ∧ SqT K H r (st.1.map V.bl)
theorem StP.keep {K : PySem.W.Frag} {H H' : Hp} {j : Addr} {v : V} {st : Sc} (e : Exj j H H') (n : NTup H j) : StP K H v st → StP K H' v st
  | ⟨q, r, h1, h2, h3⟩ => ⟨q, r, h1, sqT_keep e n h2, sqT_keep e n h3⟩
theorem StP.ex {K : PySem.W.Frag} {H H' : Hp} {v : V} {st : Sc} (e : Ex H H') : StP K H v st → StP K H' v st
  | ⟨q, r, h1, h2, h3⟩ => ⟨q, r, h1, sqT_exN e h2, sqT_exN e h3⟩
theorem set_cut {f : List Bool} {p : Nat} {b : Bool} (h : p < f.length) : f.take p ++ [b] ++ f.drop (p + 1) = f.set p b := by
  rw [List.set_eq_take_append_cons_drop, if_pos h, List.append_assoc]
  rfl
theorem fill_cut {f : List Bool} {a p : Nat} (ha : a < f.length) (hp : p < f.length) : f.take (min a p) ++ List.replicate (max a p + 1 - min a p) (f.getD a false) ++ f.drop (max a p + 1) = fillC f a p := by
  refine flag_ext (n := f.length) ?_ ?_ fun i hi => ?_
  · simp only [List.length_append, List.length_take, List.length_replicate, List.length_drop]
    omega
  · unfold fillC
    rw [List.length_map, List.length_range]
  · rw [fill_getD hi, List.getD_eq_getElem?_getD]
    by_cases h1 : i < min a p
    · rw [List.getElem?_append_left (by simp only [List.length_append, List.length_take, List.length_replicate]; omega), List.getElem?_append_left (by rw [List.length_take]; omega), List.getElem?_take_of_lt h1, if_neg (by omega), List.getD_eq_getElem?_getD]
    · by_cases h2 : i ≤ max a p
      · rw [List.getElem?_append_left (by simp only [List.length_append, List.length_take, List.length_replicate]; omega), List.getElem?_append_right (by rw [List.length_take]; omega), List.getElem?_replicate, if_pos (by rw [List.length_take]; omega), if_pos (by omega)]
        rfl
      · rw [List.getElem?_append_right (by simp only [List.length_append, List.length_take, List.length_replicate]; omega), List.getElem?_drop, if_neg (by omega), List.getD_eq_getElem?_getD]
        congr 2
        simp only [List.length_append, List.length_take, List.length_replicate]
        omega
section
variable {w : World} {K : PySem.W.Frag} {mg : Str → Option Value} {base : Heap}
end
end K31
set_option Elab.async false
set_option pp.maxSteps 1200
set_option linter.all false
set_option maxRecDepth 100000
set_option maxHeartbeats 4000000
namespace K31
open PySem L2 My Bfs
def keyB (b : Bool) : NestedKey := .num (if b = true then 1 else 0)
def keyP : Option Nat → NestedKey
  | none => .none
  | some p => .num (p : Nat)
def keyC (st : Sc) : NestedKey := .tup [.tup (st.1.map keyB), keyP st.2]
theorem keyB_inj : ∀ {a b : List Bool}, a.map keyB = b.map keyB → a = b
  | [], [], _ => rfl
  | [], _ :: _, e => by simp at e
  | _ :: _, [], e => by simp at e
  | x :: xs, y :: ys, e => by
    rw [List.map_cons, List.map_cons] at e
    injection e with e1 e2
    rw [keyB_inj e2]
    congr 1
    unfold keyB at e1
    injection e1 with e1
    cases x <;> cases y <;> simp_all
theorem keyC_inj {s t : Sc} (e : keyC s = keyC t) : s = t := by
  obtain ⟨f, a⟩ := s
  obtain ⟨g, b⟩ := t
  unfold keyC at e
  injection e with e
  injection e with e1 e2
  injection e1 with e1
  injection e2 with e2 _
  refine Prod.ext (keyB_inj e1) ?_
  have e2 : keyP a = keyP b := e2
  show a = b
  cases a with
  | none =>
    cases b with
    | none => rfl
    | some q => exact absurd e2 (fun z => NestedKey.noConfusion z)
  | some p =>
    cases b with
    | none => exact absurd e2 (fun z => NestedKey.noConfusion z)
    | some q =>
      have e2 : NestedKey.num (p : Nat) = NestedKey.num (q : Nat) := e2
      injection e2 with e2
      rw [Int.ofNat.inj e2]
theorem keyB_depth : ∀ l : List Bool, NestedKey.depthAll (l.map keyB) = 0
  | [] => rfl
  | x :: l => by
    show max 0 (NestedKey.depthAll (l.map keyB)) = 0
    rw [keyB_depth l]
    rfl
theorem keyC_depth (st : Sc) : (keyC st).depth ≤ 8 := by
  show max (NestedKey.depthAll (st.1.map keyB) + 1) (max (keyP st.2).depth 0) + 1 ≤ 8
  rw [keyB_depth]
  have : (keyP st.2).depth = 0 := by
    cases st.2 <;> rfl
  rw [this]
  decide
theorem nis_p {K : PySem.W.Frag} {H : Hp} (a : Option Nat) : NIs true K H (keyP a) (anP a) := by
  cases a with
  | none => exact .none
  | some p => exact .num _
theorem nis_c {K : PySem.W.Frag} {H : Hp} {v : V} {st : Sc} (h : StP K H v st) : ∃ q, v = .ref q ∧ NIs true K H (keyC st) (.ref q) := by
  obtain ⟨q, r, rfl, h1, h2⟩ := h
  exact ⟨q, rfl, .tup h1 (.cons (.tup h2 (NAll.bools _)) (.cons (nis_p _) .nil))⟩
def KvR (kvs : List (NestedKey × V)) (f : List (Sc × List Mv)) : Prop := kvs.map (·.1) = f.map fun q => keyC q.1
theorem kv_some {s : Sc} : ∀ {kvs : List (NestedKey × V)} {f : List (Sc × List Mv)}, KvR kvs f → (valV kvs (keyC s)).isSome = (getP f s).isSome
  | [], [], _ => rfl
  | [], _ :: _, h => by simp [KvR] at h
  | _ :: _, [], h => by simp [KvR] at h
  | kv :: kvs, q :: f, h => by
    unfold KvR at h
    rw [List.map_cons, List.map_cons] at h
    injection h with h1 h2
    by_cases e : q.1 = s
    · have g : getP (q :: f) s = some q.2 := by
        unfold getP
        rw [List.find?_cons_of_pos (by simp [e])]
        rfl
      rw [g, valV_pos (by rw [h1, e])]
      rfl
    · have g : getP (q :: f) s = getP f s := by
        unfold getP
        rw [List.find?_cons_of_neg (by simp [e])]
      rw [g, valV_neg (fun z => e (keyC_inj (by rw [← h1, z]))), kv_some h2]
theorem kv_len {kvs : List (NestedKey × V)} {f : List (Sc × List Mv)} (h : KvR kvs f) : kvs.length = f.length := by
  have := congrArg List.length h
  simpa using this
theorem moves_len (n : Nat) : (movesC n).length = 2 * n := by
  unfold movesC
  rw [List.length_append, List.length_map, List.length_map, List.length_range]
  omega
theorem moves_at {n j i : Nat} (hj : j < 2) (hi : i < n) : (movesC n)[j * n + i]? = some (decide (j = 1), i) := by
  unfold movesC
  rcases (show j = 0 ∨ j = 1 by omega) with z | z
  · subst z
    rw [List.getElem?_append_left (by rw [List.length_map, List.length_range]; omega), List.getElem?_map, show 0 * n + i = i by omega, List.getElem?_range hi]
    rfl
  · subst z
    rw [List.getElem?_append_right (by rw [List.length_map, List.length_range]; omega), List.getElem?_map, List.length_map, List.length_range, show 1 * n + i - n = i by omega, List.getElem?_range hi]
    rfl
def MvO (K : PySem.W.Frag) (H : Hp) (v : V) (m : Mv) : Prop := ∃ q, v = .ref q ∧ H q = some (.tup [.str (wordC m.1), .int (m.2 : Nat)])
theorem MvO.keep {K : PySem.W.Frag} {H H' : Hp} {j : Addr} {v : V} {m : Mv} (e : Exj j H H') (n : NTup H j) : MvO K H v m → MvO K H' v m
  | ⟨q, h1, h2⟩ => ⟨q, h1, e q _ (fun z => (n _ (z ▸ h2)).1 _ rfl) h2⟩
theorem MvO.ex {K : PySem.W.Frag} {H H' : Hp} {v : V} {m : Mv} (e : Ex H H') : MvO K H v m → MvO K H' v m
  | ⟨q, h1, h2⟩ => ⟨q, h1, e _ _ h2⟩
theorem MvO.mv {K : PySem.W.Frag} {H : Hp} {v : V} {m : Mv} : MvO K H v m → MvR K H v m
  | ⟨q, h1, h2⟩ => ⟨q, h1, sqT h2⟩
abbrev En := Sc × List Mv
def EnR (K : PySem.W.Frag) (L : Addr) (H : Hp) (v : V) (e : En) : Prop := ∃ q sv wq us, v = .ref q ∧ SqT K H q [sv, .ref wq] ∧ StP K H sv e.1 ∧ wq ≠ L ∧ H wq = some (.lst us) ∧ AllR (MvO K H) us e.2
theorem EnR.ex {K : PySem.W.Frag} {L : Addr} {H H' : Hp} {v : V} {e : En} (x : Ex H H') : EnR K L H v e → EnR K L H' v e
  | ⟨q, sv, wq, us, h1, h2, h3, h4, h5, h6⟩ => ⟨q, sv, wq, us, h1, sqT_exN x h2, h3.ex x, h4, x _ _ h5, h6.mono fun v m r => r.ex x⟩
theorem EnR.to {K : PySem.W.Frag} {L L' : Addr} {H H' : Hp} {v : V} {e : En} (n : H L' = none) (x : Ex H H') : EnR K L H v e → EnR K L' H' v e
  | ⟨q, sv, wq, us, h1, h2, h3, h4, h5, h6⟩ => ⟨q, sv, wq, us, h1, sqT_exN x h2, h3.ex x, ne_of_none h5 n, x _ _ h5, h6.mono fun v m r => r.ex x⟩
theorem EnR.keepL {K : PySem.W.Frag} {L : Addr} {H H' : Hp} {v : V} {e : En} (x : Exj L H H') (n : NTup H L) : EnR K L H v e → EnR K L H' v e
  | ⟨q, sv, wq, us, h1, h2, h3, h4, h5, h6⟩ => ⟨q, sv, wq, us, h1, sqT_keep x n h2, h3.keep x n, h4, x _ _ h4 h5, h6.mono fun v m r => r.keep x n⟩
theorem EnR.keepS {K : PySem.W.Frag} {L S : Addr} {H H' : Hp} {v : V} {e : En} (x : Exj S H H') (n : NTup H S) (nl : ∀ a xs, H a = some (.lst xs) → a ≠ S) : EnR K L H v e → EnR K L H' v e
  | ⟨q, sv, wq, us, h1, h2, h3, h4, h5, h6⟩ => ⟨q, sv, wq, us, h1, sqT_keep x n h2, h3.keep x n, h4, x _ _ (nl _ _ h5) h5, h6.mono fun v m r => r.keep x n⟩
structure FB (K : PySem.W.Frag) (W : World) (n : Nat) (S L : Addr) (H' : Hp) (B N : Nat) (b : Bs Sc Mv) (la : List En) (ly : List En) : Prop where
  d : ∃ kvs, IsDN true K W H' S kvs ∧ KvR kvs b.found
  l : ∃ us, H' L = some (.lst us) ∧ AllR (EnR K L H') us la
  eq : la.map (·.1) = b.later
  get : ∀ e ∈ la, getP b.found e.1 = some e.2
  vs : ∀ e ∈ la, VS n e.1
  ln : ∀ e ∈ la, e.2.length ≤ N
  n1 : b.found.length ≤ B
  n2 : b.later.length ≤ B
  lay : ∀ e ∈ ly, getP b.found e.1 = some e.2
theorem FB.ex {K : PySem.W.Frag} {W : World} {n : Nat} {S L : Addr} {H H' : Hp} {B N : Nat} {b : Bs Sc Mv} {la ly : List En} (e : Ex H H') (h : FB K W n S L H B N b la ly) : FB K W n S L H' B N b la ly := by
  obtain ⟨kvs, d1, d2⟩ := h.d
  obtain ⟨us, l1, l2⟩ := h.l
  exact ⟨⟨kvs, d1.ex e, d2⟩, ⟨us, e _ _ l1, l2.mono fun v x r => r.ex e⟩, h.eq, h.get, h.vs, h.ln, h.n1, h.n2, h.lay⟩
theorem FB.mono {K : PySem.W.Frag} {W : World} {n : Nat} {S L : Addr} {H : Hp} {B B' N : Nat} {b : Bs Sc Mv} {la ly : List En} (e : B ≤ B') (h : FB K W n S L H B N b la ly) : FB K W n S L H B' N b la ly :=
  ⟨h.d, h.l, h.eq, h.get, h.vs, h.ln, Nat.le_trans h.n1 e, Nat.le_trans h.n2 e, h.lay⟩
end K31
set_option Elab.async false
set_option pp.maxSteps 1200
set_option linter.all false
set_option maxRecDepth 100000
set_option maxHeartbeats 4000000
namespace K31
open PySem L2 My Bfs
def eM (m : Mv) : PyData := .tuple [.str (wordC m.1), .int (m.2 : Nat)]
theorem word_lay (b : Bool) : PyData.canLay0 (.str (wordC b)) = true := by cases b <;> decide +kernel
theorem word_eq (a b : Bool) : PyData.eqv (.str (wordC a)) (.str (wordC b)) = decide (a = b) := by cases a <;> cases b <;> decide +kernel
theorem goodM : Good eM 1 := ⟨fun m => by
    show (PyData.canLay0 (.str (wordC m.1)) && (PyData.canLay0 (.int (m.2 : Nat)) && true)) = true
    rw [word_lay]
    rfl, fun m => Nat.le_refl _, fun x y => by
    show (PyData.eqv (.str (wordC x.1)) (.str (wordC y.1)) && (PyData.eqv (.int (x.2 : Nat)) (.int (y.2 : Nat)) && true)) = _
    rw [word_eq, goodI.eqv, Bool.eq_iff_iff]
    obtain ⟨a, p⟩ := x
    obtain ⟨b, q⟩ := y
    have h : ((p : Nat) : Int) = ((q : Nat) : Int) ↔ p = q := by omega
    simp [h]⟩
def eA : Option Nat → PyData
  | none => .none
  | some p => .int (p : Nat)
theorem goodA : Good eA 0 := ⟨fun a => by cases a <;> rfl, fun a => by cases a <;> exact Nat.le_refl _, fun a b => by
  cases a with
  | none => cases b <;> rfl
  | some p =>
    cases b with
    | none => rfl
    | some q =>
      show PyData.eqv (.int (p : Nat)) (.int (q : Nat)) = _
      rw [goodI.eqv, Bool.eq_iff_iff]
      have h : ((p : Nat) : Int) = ((q : Nat) : Int) ↔ p = q := by omega
      simp [h]⟩
theorem goodU {α : Type} [DecidableEq α] {e : α → PyData} {n m : Nat} (g : Good e n) (h : n ≤ m) : Good e m := ⟨g.lay, fun x => Nat.le_trans (g.dep x) h, g.eqv⟩
abbrev eSt : Sc → PyData := eP (eT PyData.bool) eA
theorem goodSt : Good eSt 2 := goodP (goodT goodB) (goodU goodA (by decide))
abbrev eEn : En → PyData := eP eSt (eL eM)
theorem goodEn : Good eEn 3 := goodP goodSt (goodL goodM)
theorem dpB {K : PySem.W.Frag} {H : Hp} : ∀ (l : List Bool), DpAll K H (l.map V.bl) (l.map PyData.bool)
  | [] => .nil
  | b :: l => .cons (.bl b) (dpB l)
theorem StP.dp {K : PySem.W.Frag} {H : Hp} {v : V} {st : Sc} (h : StP K H v st) : Dp K H v (eSt st) := by
  obtain ⟨q, r, rfl, h1, h2⟩ := h
  refine .tup h1 (.cons (.tup h2 (dpB _)) (.cons ?_ .nil))
  cases st.2 with
  | none => exact .non
  | some p => exact .int _
theorem MvR.dp {K : PySem.W.Frag} {H : Hp} {v : V} {m : Mv} (h : MvR K H v m) : Dp K H v (eM m) := by
  obtain ⟨q, rfl, h⟩ := h
  exact .tup h (.cons (.str _) (.cons (.int _) .nil))
theorem mvs_dp {K : PySem.W.Frag} {H : Hp} {a : Addr} {us : List V} {p : List Mv} (h : SqL K H a us) (r : AllR (MvR K H) us p) : Dp K H (.ref a) (eL eM p) := .lst h (r.dp fun _ _ z => z.dp)
theorem EnR.dp {K : PySem.W.Frag} {L : Addr} {H : Hp} {v : V} {e : En} (h : EnR K L H v e) : Dp K H v (eEn e) := by
  obtain ⟨q, sv, wq, us, rfl, h2, h3, h4, h5, h6⟩ := h
  exact .tup h2 (.cons h3.dp (.cons (mvs_dp (sqI h5) (h6.mono fun v m r => r.mv)) .nil))
def leads (s : Sc) (g : List Bool) (p : List Mv) : Prop := (p.foldl stepC s).1 = g
/-- the goal is in no layer ahead -/
def Not (n : Nat) (s : Sc) (g : List Bool) (k : Nat) : Prop := ∀ t p, getP (bfsB stepC (movesC n) s k).found t = some p → p.length < k → t.1 ≠ g
theorem not_least {n : Nat} {s : Sc} {g : List Bool} {k : Nat} (h : Not n s g k) {p : List Mv} (hp : ∀ m ∈ p, m ∈ movesC n) (hl : leads s g p) : k ≤ p.length := by
  refine Nat.le_of_not_lt fun z => ?_
  obtain ⟨q, h1, h2⟩ := (Inv.bfs (step := stepC) (moves := movesC n) s k).all p hp (by omega)
  exact h _ q h1 (by omega) hl
theorem not_here {n : Nat} {s : Sc} {g : List Bool} {k : Nat} (h : Not n s g k) {p : List Mv} (hp : ∀ m ∈ p, m ∈ movesC n) (hl : leads s g p) (hk : p.length ≤ k) : ∃ t ∈ (bfsB stepC (movesC n) s k).later, t.1 = g := by
  have I := Inv.bfs (step := stepC) (moves := movesC n) s k
  obtain ⟨q, h1, h2⟩ := I.all p hp hk
  have := (I.way _ _ h1).2.1
  refine ⟨_, (I.last _).mpr ⟨q, h1, ?_⟩, hl⟩
  have : ¬ q.length < k := fun z => h _ q h1 z hl
  omega
theorem not_next {n : Nat} {s : Sc} {g : List Bool} {k : Nat} (h : Not n s g k) (hl : ∀ t ∈ (bfsB stepC (movesC n) s k).later, t.1 ≠ g) : Not n s g (k + 1) := by
  intro t p h1 h2 e
  have I := Inv.bfs (step := stepC) (moves := movesC n) s k
  have J := Inv.bfs (step := stepC) (moves := movesC n) s (k + 1)
  obtain ⟨j1, _, j3⟩ := J.way _ _ h1
  obtain ⟨q, i1, i2⟩ := I.all p j3 (by omega)
  rw [j1] at i1
  by_cases z : q.length < k
  · exact h _ q i1 z e
  · have := (I.way _ _ i1).2.1
    exact hl t ((I.last t).mpr ⟨q, i1, by omega⟩) e
/-- a layer that is empty stays so -/
theorem later_nil {n : Nat} {s : Sc} {k : Nat} (h : (bfsB stepC (movesC n) s k).later = []) : ∀ j, bfsB stepC (movesC n) s (k + j) = bfsB stepC (movesC n) s k
  | 0 => rfl
  | j + 1 => by
    show layerB stepC (movesC n) (bfsB stepC (movesC n) s (k + j)) = _
    rw [later_nil h j]
    obtain ⟨b, hb⟩ : ∃ b, b = bfsB stepC (movesC n) s k := ⟨_, rfl⟩
    rw [← hb] at h ⊢
    unfold layerB
    rw [h]
    show Bs.mk b.found [] = b
    rw [← h]
theorem later_ne {n : Nat} {s : Sc} {g : List Bool} {k : Nat} (h : Not n s g k) {p : List Mv} (hp : ∀ m ∈ p, m ∈ movesC n) (hl : leads s g p) : (bfsB stepC (movesC n) s k).later ≠ [] := by
  intro z
  by_cases c : p.length ≤ k
  · obtain ⟨t, ht, _⟩ := not_here h hp hl c
    rw [z] at ht
    exact nomatch ht
  · have e := later_nil z (p.length - k)
    rw [show k + (p.length - k) = p.length by omega] at e
    obtain ⟨q, h1, _⟩ := (Inv.bfs (step := stepC) (moves := movesC n) s p.length).all p hp (Nat.le_refl _)
    rw [e] at h1
    have I := Inv.bfs (step := stepC) (moves := movesC n) s k
    have := (I.way _ _ h1).2.1
    have n2 : ¬ q.length < k := fun y => h _ q h1 y hl
    have := (I.last _).mpr ⟨q, h1, by omega⟩
    rw [z] at this
    exact nomatch this
theorem vs_step {n : Nat} {st : Sc} (v : VS n st) {m : Mv} (h : m.2 < n) : VS n (stepC st m) := by
  unfold stepC
  by_cases c : m.1 = true ∧ st.2.isSome = true
  · rw [if_pos c]
    exact ⟨by show (fillC _ _ _).length = n; unfold fillC; rw [List.length_map, List.length_range]; exact v.len, v.anc⟩
  · rw [if_neg c]
    exact ⟨by show (st.1.set _ _).length = n; rw [List.length_set]; exact v.len, fun p hp => by cases hp; exact h⟩
end K31
set_option Elab.async false
set_option pp.maxSteps 1200
set_option linter.all false
set_option maxRecDepth 100000
set_option maxHeartbeats 4000000
namespace K31
open PySem L2 My Bfs
structure Src (K : PySem.W.Frag) (L : Addr) (H : Hp) (sv : V) (wq : Addr) (us : List V) (e : En) : Prop where
  st : StP K H sv e.1
  n : wq ≠ L
  w : H wq = some (.lst us)
  r : AllR (MvO K H) us e.2
theorem Src.ex {K : PySem.W.Frag} {L : Addr} {H H' : Hp} {sv : V} {wq : Addr} {us : List V} {e : En} (x : Ex H H') (h : Src K L H sv wq us e) : Src K L H' sv wq us e := ⟨h.st.ex x, h.n, x _ _ h.w, h.r.mono fun v m r => r.ex x⟩
section
variable {w : World} {K : PySem.W.Frag} {mg : Str → Option Value} {base : Heap}
end
end K31
set_option Elab.async false
set_option pp.maxSteps 1200
set_option linter.all false
set_option maxRecDepth 100000
set_option maxHeartbeats 4000000
namespace K31
open PySem L2 My Bfs
theorem same {α : Type} [DecidableEq α] {a : α} : (!decide (a = a)) = false := by simp
def flg (ns ms : List Int) : List Bool := ns.map fun r => decide (r ∈ ms)
def posA (ns : List Int) : Option Int → Option Nat
  | none => none
  | some r => if r ∈ ns then some (ns.idxOf r) else none
/-- the clicks on all unlike places -/
def allC (fl gl : List Bool) (k : Nat) : List Mv := ((List.range k).filter fun p => !decide (fl.getD p false = gl.getD p false)).map fun p => (false, p)
theorem allC_succ (fl gl : List Bool) (k : Nat) : allC fl gl (k + 1) = allC fl gl k ++ if fl.getD k false = gl.getD k false then [] else [(false, k)] := by
  unfold allC
  rw [List.range_succ, List.filter_append, List.map_append, List.filter_cons]
  by_cases h : fl.getD k false = gl.getD k false
  · rw [if_neg (by simp only [decide_eq_true h]; decide), if_pos h]
    rfl
  · rw [if_pos (by simp only [decide_eq_false h]; decide), if_neg h]
    rfl
theorem allC_lead {fl gl : List Bool} {a : Option Nat} : ∀ k, k ≤ fl.length → ((allC fl gl k).foldl stepC (fl, a)).1.length = fl.length ∧ ∀ i, i < fl.length → ((allC fl gl k).foldl stepC (fl, a)).1.getD i false = if i < k then gl.getD i false else fl.getD i false
  | 0, _ => ⟨rfl, fun i hi => by rw [if_neg (by omega)]; rfl⟩
  | k + 1, h => by
    obtain ⟨h1, h2⟩ := allC_lead (fl := fl) (gl := gl) (a := a) k (by omega)
    rw [allC_succ, List.foldl_append]
    obtain ⟨st, hst⟩ : ∃ st, st = (allC fl gl k).foldl stepC (fl, a) := ⟨_, rfl⟩
    rw [← hst] at h1 h2 ⊢
    by_cases c : fl.getD k false = gl.getD k false
    · rw [if_pos c]
      refine ⟨h1, fun i hi => ?_⟩
      show st.1.getD i false = _
      rw [h2 i hi]
      by_cases z : i = k
      · rw [z, if_neg (by omega), if_pos (by omega), c]
      · by_cases y : i < k
        · rw [if_pos y, if_pos (by omega)]
        · rw [if_neg y, if_neg (by omega)]
    · rw [if_neg c]
      have e : [((false, k) : Mv)].foldl stepC st = (st.1.set k (!st.1.getD k false), some k) := by
        show stepC st (false, k) = _
        unfold stepC
        rw [if_neg (fun z => Bool.noConfusion z.1)]
      rw [e]
      refine ⟨by show (st.1.set _ _).length = _; rw [List.length_set, h1], fun i hi => ?_⟩
      show (st.1.set k (!st.1.getD k false)).getD i false = _
      rw [set_getD (f := st.1) (p := k) (i := i) (show k < st.1.length by omega), h2 k (by omega), if_neg (show ¬ k < k by omega)]
      by_cases z : i = k
      · rw [if_pos z, if_pos (by omega), z]
        cases hf : fl.getD k false <;> cases hg : gl.getD k false <;> simp_all
      · rw [if_neg z, h2 i hi]
        by_cases y : i < k
        · rw [if_pos y, if_pos (by omega)]
        · rw [if_neg y, if_neg (by omega)]
theorem allC_leads {fl gl : List Bool} {a : Option Nat} (h : gl.length = fl.length) : leads (fl, a) gl (allC fl gl fl.length) := by
  obtain ⟨h1, h2⟩ := allC_lead (fl := fl) (gl := gl) (a := a) fl.length (Nat.le_refl _)
  exact flag_ext (n := fl.length) h1 h fun i hi => by rw [h2 i hi, if_pos hi]
theorem allC_mem {fl gl : List Bool} {k n : Nat} (h : k ≤ n) : ∀ m ∈ allC fl gl k, m ∈ movesC n := fun m hm => by
  obtain ⟨p, hp, rfl⟩ := List.mem_map.mp hm
  have := List.mem_range.mp (List.mem_filter.mp hp).1
  exact List.mem_append_left _ (List.mem_map.mpr ⟨p, List.mem_range.mpr (by omega), rfl⟩)
theorem allC_len (fl gl : List Bool) (k : Nat) : (allC fl gl k).length ≤ k := by
  unfold allC
  rw [List.length_map]
  exact Nat.le_trans (List.length_filter_le _ _) (by rw [List.length_range]; exact Nat.le_refl _)
theorem sub_nil {ns ms : List Int} (h : ∀ r ∈ ms, r ∈ ns) : (ms.filter fun r => !decide (r ∈ ns)) = [] := List.filter_eq_nil_iff.mpr fun r hr => by simp [h r hr]
theorem get_pos {ns : List Int} {H : Hp} {C : Addr} (an : Option Int) (h : H C = some (.dK (kvsOf ns fun n => V.int (ns.idxOf n : Nat)))) : GetV H C (anV an) .non (anP (posA ns an)) := by
  cases an with
  | none => exact .inr ⟨_, rfl, .inl h, rfl⟩
  | some r =>
    refine .inl ⟨_, .inl ⟨_, Sum.inl r, .inl h, rfl, rfl⟩, ?_⟩
    rw [valV_kvs]
    show anP (if r ∈ ns then some (ns.idxOf r) else none) = _
    by_cases c : r ∈ ns
    · rw [if_pos c, if_pos c]
      rfl
    · rw [if_neg c, if_neg c]
      rfl
theorem posA_lt {ns : List Int} {an : Option Int} {p : Nat} (h : posA ns an = some p) : p < ns.length := by
  cases an with
  | none => cases h
  | some r =>
    have h : (if r ∈ ns then some (ns.idxOf r) else none) = some p := h
    by_cases c : r ∈ ns
    · rw [if_pos c] at h
      cases h
      exact List.idxOf_lt_length_iff.mpr c
    · rw [if_neg c] at h
      cases h
section
variable {w : World} {K : PySem.W.Frag} {mg : Str → Option Value} {base : Heap}
end
end K31
set_option Elab.async false
set_option pp.maxSteps 1200
set_option linter.all false
set_option maxRecDepth 100000
set_option maxHeartbeats 4000000
namespace K31
open PySem L2 My
/-! the cost told place by place -/
def cstep (ps : List Int) (st : Int × Int) (j : Int) : Int × Int := if j ∈ ps then (st.1, st.2 + 1) else (st.1 + (st.2 + 1) / 2, 0)
def cfold (ps : List Int) (n : Nat) : Int × Int := ((List.range n).map fun i => ((i : Nat) : Int)).foldl (cstep ps) (0, 0)
theorem cfold_succ (ps : List Int) (n : Nat) : cfold ps (n + 1) = cstep ps (cfold ps n) n := by
  unfold cfold
  rw [List.range_succ, List.map_append, List.foldl_append]
  rfl
theorem filt_in {j : Int} : ∀ {ps : List Int}, ps.Pairwise (· < ·) → j ∈ ps → ps.filter (fun p => decide (p < j + 1)) = ps.filter (fun p => decide (p < j)) ++ [j]
  | [], _, h => nomatch h
  | p :: r, hp, h => by
    obtain ⟨h1, h2⟩ := List.pairwise_cons.mp hp
    rw [List.filter_cons, List.filter_cons]
    rcases List.mem_cons.mp h with e | e
    · subst e
      have z : ∀ b : Int, b ≤ j + 1 → r.filter (fun p => decide (p < b)) = [] := fun b hb => List.filter_eq_nil_iff.mpr fun q hq => by
        have := h1 q hq
        simp
        omega
      rw [if_pos (by simp; omega), if_neg (by simp), z (j + 1) (by omega), z j (by omega)]
      rfl
    · have := h1 j e
      rw [if_pos (by simp; omega), if_pos (by simp; omega), filt_in h2 e]
      rfl
theorem filt_out {j : Int} {ps : List Int} (h : j ∉ ps) : ps.filter (fun p => decide (p < j + 1)) = ps.filter (fun p => decide (p < j)) :=
  List.filter_congr fun p hp => by
    rw [decide_eq_decide]
    have : p ≠ j := fun e => h (e ▸ hp)
    omega
theorem blocks_add (ps : List Int) (j : Int) : blocksL (ps ++ [j]) = addB (blocksL ps) j := by
  unfold blocksL
  rw [List.foldl_append]
  rfl
theorem cost_inv {ps : List Int} (hp : ps.Pairwise (· < ·)) (h0 : ∀ p ∈ ps, 0 ≤ p) : ∀ n : Nat, ∃ bs, blocksL (ps.filter fun p => decide (p < (n : Int))) = bs ++ (if (cfold ps n).2 = 0 then [] else [((n : Int) - (cfold ps n).2, (n : Int) - 1)]) ∧ (cfold ps n).1 = (bs.map costB).sum ∧ 0 ≤ (cfold ps n).2 ∧ ((cfold ps n).2 = 0 → ∀ l k, bs = l ++ [k] → k.2 < (n : Int) - 1)
  | 0 => by
    refine ⟨[], ?_, rfl, Int.le_refl _, fun _ l k e => by simp at e⟩
    have : ps.filter (fun p => decide (p < ((0 : Nat) : Int))) = [] := List.filter_eq_nil_iff.mpr fun q hq => by
      have := h0 q hq
      simp
      omega
    rw [this]
    rfl
  | n + 1 => by
    obtain ⟨bs, h1, h2, h3, h4⟩ := cost_inv hp h0 n
    rw [cfold_succ]
    generalize cfold ps n = st at h1 h2 h3 h4
    obtain ⟨f, l⟩ := st
    unfold cstep
    dsimp only at h1 h2 h3 h4 ⊢
    have en : ((n + 1 : Nat) : Int) = (n : Int) + 1 := by omega
    rw [en]
    by_cases hj : (n : Int) ∈ ps
    · rw [if_pos hj, filt_in hp hj, blocks_add, h1]
      dsimp only
      rw [if_neg (show ¬ l + 1 = 0 by omega)]
      by_cases z : l = 0
      · rw [if_pos z, List.append_nil]
        refine ⟨bs, ?_, h2, by omega, fun q => by omega⟩
        rw [z]
        rcases List.eq_nil_or_concat bs with e | ⟨l', k, e⟩
        · rw [e]
          show [((n : Int), (n : Int))] = [((n : Int) + 1 - (0 + 1), (n : Int) + 1 - 1)]
          rw [show (n : Int) + 1 - (0 + 1) = n by omega, show (n : Int) + 1 - 1 = n by omega]
        · rw [List.concat_eq_append] at e
          have := h4 z l' k e
          rw [e, addB_snoc, if_neg (by omega)]
          rw [show (n : Int) + 1 - (0 + 1) = n by omega, show (n : Int) + 1 - 1 = n by omega]
      · rw [if_neg z, addB_snoc, if_pos rfl]
        refine ⟨bs, ?_, h2, by omega, fun q => by omega⟩
        rw [show (n : Int) + 1 - (l + 1) = n - l by omega, show (n : Int) + 1 - 1 = n by omega]
    · rw [if_neg hj, filt_out hj, h1]
      dsimp only
      rw [if_pos rfl]
      by_cases z : l = 0
      · rw [if_pos z]
        refine ⟨bs, rfl, ?_, Int.le_refl _, fun _ l' k e => ?_⟩
        · rw [z, h2]
          omega
        · have := h4 z l' k e
          omega
      · rw [if_neg z]
        refine ⟨_, (List.append_nil _).symm, ?_, Int.le_refl _, fun _ l' k e => ?_⟩
        · rw [List.map_append, List.sum_append, h2]
          show _ = _ + (((n : Int) - 1 - (n - l) + 2) / 2 + 0)
          rw [show (n : Int) - 1 - (n - l) + 2 = l + 1 by omega]
          omega
        · have e1 := (List.append_inj' e rfl).2
          injection e1 with e1 _
          rw [← e1]
          show (n : Int) - 1 < _
          omega
theorem borders_asc (ns ms : List Int) : (bordersL ns ms).Pairwise (· < ·) := by
  unfold bordersL
  refine List.Pairwise.filter _ ?_
  rw [List.pairwise_map]
  exact List.pairwise_lt_range.imp fun {a b} h => by omega
theorem cost_fold (ns ms : List Int) : cfold (bordersL ns ms) (ns.length + 2) = (costL ns ms, 0) := by
  obtain ⟨bs, h1, h2, h3, h4⟩ := cost_inv (borders_asc ns ms) (fun p hp => (borders_in_ hp).1) (ns.length + 2)
  have hout : ((ns.length + 1 : Nat) : Int) ∉ bordersL ns ms := fun h => by
    have := (borders_in_ h).2
    omega
  have z : (cfold (bordersL ns ms) (ns.length + 2)).2 = 0 := by
    rw [cfold_succ]
    unfold cstep
    rw [if_neg hout]
  have all : (bordersL ns ms).filter (fun p => decide (p < ((ns.length + 2 : Nat) : Int))) = bordersL ns ms := List.filter_eq_self.mpr fun p hp => by
    have := (borders_in_ hp).2
    simp
    omega
  rw [all, if_pos z, List.append_nil] at h1
  refine Prod.ext ?_ z
  rw [h2]
  unfold costL
  rw [h1]
end K31
set_option Elab.async false
set_option pp.maxSteps 1200
set_option linter.all false
set_option maxRecDepth 100000
set_option maxHeartbeats 4000000
namespace K31
open PySem L2 My
/-! what sets of borders cost: pairs of neighbours from the left -/
def gst (b : Bool) (s : Nat × Bool) : Nat × Bool := if s.2 = true then (s.1, false) else if b = true then (s.1 + 1, true) else (s.1, false)
def grd (S : Nat → Bool) : Nat → Nat × Bool
  | 0 => (0, false)
  | n + 1 => gst (S n) (grd S n)
/-- the cost of sets in each other -/
theorem grd_sub {S T U : Nat → Bool} : ∀ n, (∀ i, i < n → T i = true → S i = true ∨ U i = true) → (grd T n).1 < (grd S n).1 + (grd U n).1 ∨ ((grd T n).1 = (grd S n).1 + (grd U n).1 ∧ ((grd S n).2 = true ∨ (grd U n).2 = true → (grd T n).2 = true))
  | 0, _ => .inr ⟨rfl, fun h => h.elim id id⟩
  | n + 1, h => by
    have ih := grd_sub (S := S) (T := T) (U := U) n fun i hi => h i (by omega)
    have hn := h n (by omega)
    show (gst (T n) (grd T n)).1 < (gst (S n) (grd S n)).1 + (gst (U n) (grd U n)).1 ∨ ((gst (T n) (grd T n)).1 = (gst (S n) (grd S n)).1 + (gst (U n) (grd U n)).1 ∧ ((gst (S n) (grd S n)).2 = true ∨ (gst (U n) (grd U n)).2 = true → (gst (T n) (grd T n)).2 = true))
    generalize grd T n = t at *
    generalize grd S n = s at *
    generalize grd U n = u at *
    obtain ⟨ct, kt⟩ := t
    obtain ⟨cs, ks⟩ := s
    obtain ⟨cu, ku⟩ := u
    unfold gst
    generalize T n = a at *
    generalize S n = b at *
    generalize U n = c at *
    cases kt <;> cases ks <;> cases ku <;> cases a <;> cases b <;> cases c <;> simp_all <;> omega
theorem grd_none : ∀ {S : Nat → Bool} (n : Nat), (∀ i, i < n → S i = false) → grd S n = (0, false)
  | _, 0, _ => rfl
  | S, n + 1, h => by
    show gst (S n) (grd S n) = _
    rw [grd_none n fun i hi => h i (by omega), h n (by omega)]
    rfl
theorem grd_mono {S T : Nat → Bool} (n : Nat) (h : ∀ i, i < n → T i = true → S i = true) : (grd T n).1 ≤ (grd S n).1 := by
  have := grd_sub (S := S) (T := T) (U := fun _ => false) n fun i hi ht => .inl (h i hi ht)
  rw [grd_none (S := fun _ => false) n (fun _ _ => rfl)] at this
  rcases this with z | z
  · exact Nat.le_of_lt z
  · exact Nat.le_of_eq z.1
theorem grd_join {S T U : Nat → Bool} (n : Nat) (h : ∀ i, i < n → T i = true → S i = true ∨ U i = true) : (grd T n).1 ≤ (grd S n).1 + (grd U n).1 := by
  rcases grd_sub n h with z | z
  · exact Nat.le_of_lt z
  · exact Nat.le_of_eq z.1
/-- two neighbours cost one -/
theorem grd_two (d : Nat) : ∀ n, (grd (fun i => decide (i = d ∨ i = d + 1)) n).1 ≤ 1 ∧ (n ≤ d → grd (fun i => decide (i = d ∨ i = d + 1)) n = (0, false)) ∧ (n = d + 1 → grd (fun i => decide (i = d ∨ i = d + 1)) n = (1, true)) ∧ (d + 1 < n → grd (fun i => decide (i = d ∨ i = d + 1)) n = (1, false))
  | 0 => ⟨Nat.zero_le _, fun _ => rfl, fun h => by omega, fun h => by omega⟩
  | n + 1 => by
    obtain ⟨h1, h2, h3, h4⟩ := grd_two d n
    have e : grd (fun i => decide (i = d ∨ i = d + 1)) (n + 1) = gst (decide (n = d ∨ n = d + 1)) (grd (fun i => decide (i = d ∨ i = d + 1)) n) := rfl
    rw [e]
    rcases Nat.lt_trichotomy n d with z | z | z
    · rw [h2 (by omega), decide_eq_false (show ¬ (n = d ∨ n = d + 1) by omega)]
      exact ⟨Nat.zero_le _, fun _ => rfl, fun h => by omega, fun h => by omega⟩
    · rw [h2 (by omega), decide_eq_true (show n = d ∨ n = d + 1 by omega)]
      exact ⟨Nat.le_refl _, fun h => by omega, fun _ => rfl, fun h => by omega⟩
    · by_cases y : n = d + 1
      · rw [h3 y]
        exact ⟨Nat.le_refl _, fun h => by omega, fun h => by omega, fun _ => rfl⟩
      · rw [h4 (by omega), decide_eq_false (show ¬ (n = d ∨ n = d + 1) by omega)]
        exact ⟨Nat.le_refl _, fun h => by omega, fun h => by omega, fun _ => rfl⟩
theorem grd_near {S T : Nat → Bool} {d : Nat} (n : Nat) (h : ∀ i, i < n → T i = true → S i = true ∨ i = d ∨ i = d + 1) : (grd T n).1 ≤ (grd S n).1 + 1 := by
  have := grd_join (S := S) (T := T) (U := fun i => decide (i = d ∨ i = d + 1)) n fun i hi ht => (h i hi ht).imp id fun z => decide_eq_true z
  have := (grd_two d n).1
  omega
/-- sets apart -/
theorem grd_far {S T : Nat → Bool} (far : ∀ i j, S i = true → T j = true → ¬ (i = j ∨ i = j + 1 ∨ j = i + 1)) : ∀ n, (grd (fun i => S i || T i) n).1 = (grd S n).1 + (grd T n).1 ∧ (grd (fun i => S i || T i) n).2 = ((grd S n).2 || (grd T n).2) ∧ ((grd S n).2 = true → ∃ m, n = m + 1 ∧ S m = true) ∧ ((grd T n).2 = true → ∃ m, n = m + 1 ∧ T m = true)
  | 0 => ⟨rfl, rfl, fun h => (nomatch h), fun h => (nomatch h)⟩
  | n + 1 => by
    obtain ⟨h1, h2, h3, h4⟩ := grd_far far n
    have e1 : grd (fun i => S i || T i) (n + 1) = gst (S n || T n) (grd (fun i => S i || T i) n) := rfl
    have e2 : grd S (n + 1) = gst (S n) (grd S n) := rfl
    have e3 : grd T (n + 1) = gst (T n) (grd T n) := rfl
    have f1 : (grd S n).2 = true → T n = false := fun z => by
      obtain ⟨m, e, hm⟩ := h3 z
      cases y : T n with
      | false => rfl
      | true => exact absurd (.inr (.inr e)) (far m n hm y)
    have f2 : (grd T n).2 = true → S n = false := fun z => by
      obtain ⟨m, e, hm⟩ := h4 z
      cases y : S n with
      | false => rfl
      | true => exact absurd (.inr (.inl e)) (far n m y hm)
    have f3 : ¬ ((grd S n).2 = true ∧ (grd T n).2 = true) := fun ⟨y, z⟩ => by
      obtain ⟨m, e, hm⟩ := h3 y
      obtain ⟨m', e', hm'⟩ := h4 z
      exact far m m' hm hm' (.inl (by omega))
    have f4 : ¬ (S n = true ∧ T n = true) := fun ⟨y, z⟩ => far n n y z (.inl rfl)
    rw [e1, e2, e3]
    have hS : (gst (S n) (grd S n)).2 = true → S n = true := fun z => by
      unfold gst at z
      split at z
      · cases z
      · split at z
        · assumption
        · cases z
    have hT : (gst (T n) (grd T n)).2 = true → T n = true := fun z => by
      unfold gst at z
      split at z
      · cases z
      · split at z
        · assumption
        · cases z
    refine ⟨?_, ?_, fun z => ⟨n, rfl, hS z⟩, fun z => ⟨n, rfl, hT z⟩⟩
    · clear hS hT h3 h4
      generalize grd (fun i => S i || T i) n = v at *
      generalize grd S n = s at *
      generalize grd T n = t at *
      obtain ⟨cv, kv⟩ := v
      obtain ⟨cs, ks⟩ := s
      obtain ⟨ct, kt⟩ := t
      unfold gst
      generalize S n = a at *
      generalize T n = b at *
      cases ks <;> cases kt <;> cases a <;> cases b <;> simp_all <;> omega
    · clear hS hT h3 h4
      generalize grd (fun i => S i || T i) n = v at *
      generalize grd S n = s at *
      generalize grd T n = t at *
      obtain ⟨cv, kv⟩ := v
      obtain ⟨cs, ks⟩ := s
      obtain ⟨ct, kt⟩ := t
      unfold gst
      generalize S n = a at *
      generalize T n = b at *
      cases ks <;> cases kt <;> cases a <;> cases b <;> simp_all
theorem grd_half (S : Nat → Bool) : ∀ n, 2 * (grd S n).1 ≤ n + if (grd S n).2 = true then 1 else 0
  | 0 => Nat.le_refl _
  | n + 1 => by
    have ih := grd_half S n
    show 2 * (gst (S n) (grd S n)).1 ≤ n + 1 + if (gst (S n) (grd S n)).2 = true then 1 else 0
    generalize grd S n = s at *
    obtain ⟨c, k⟩ := s
    unfold gst
    cases k <;> cases S n <;> simp_all <;> omega
/-- the scan of K27 tells the same -/
theorem cfold_grd (ps : List Int) : ∀ n : Nat, 0 ≤ (cfold ps n).2 ∧ (((grd (fun i => decide (((i : Nat) : Int) ∈ ps)) n).1 : Nat) : Int) = (cfold ps n).1 + ((cfold ps n).2 + 1) / 2 ∧ ((grd (fun i => decide (((i : Nat) : Int) ∈ ps)) n).2 = true ↔ (cfold ps n).2 % 2 = 1)
  | 0 => ⟨Int.le_refl _, rfl, by
    show false = true ↔ (0 : Int) % 2 = 1
    simp⟩
  | n + 1 => by
    obtain ⟨h0, h1, h2⟩ := cfold_grd ps n
    rw [cfold_succ]
    have e : grd (fun i => decide (((i : Nat) : Int) ∈ ps)) (n + 1) = gst (decide (((n : Nat) : Int) ∈ ps)) (grd (fun i => decide (((i : Nat) : Int) ∈ ps)) n) := rfl
    rw [e]
    generalize grd (fun i => decide (((i : Nat) : Int) ∈ ps)) n = s at *
    generalize cfold ps n = f at *
    obtain ⟨c, k⟩ := s
    obtain ⟨f, l⟩ := f
    unfold gst cstep
    dsimp only at h0 h1 h2 ⊢
    by_cases hj : ((n : Nat) : Int) ∈ ps
    · rw [if_pos hj, decide_eq_true hj]
      cases k with
      | true =>
        have := h2.mp rfl
        refine ⟨by show 0 ≤ l + 1; omega, by show ((c : Nat) : Int) = f + (l + 1 + 1) / 2; omega, ?_⟩
        show false = true ↔ (l + 1) % 2 = 1
        constructor
        · intro z; cases z
        · intro z; omega
      | false =>
        have : ¬ l % 2 = 1 := fun z => by have := h2.mpr z; cases this
        refine ⟨by show 0 ≤ l + 1; omega, by show ((c + 1 : Nat) : Int) = f + (l + 1 + 1) / 2; omega, ?_⟩
        show true = true ↔ (l + 1) % 2 = 1
        constructor
        · intro _; omega
        · intro _; rfl
    · rw [if_neg hj, decide_eq_false hj]
      cases k with
      | true => exact ⟨Int.le_refl _, by show ((c : Nat) : Int) = f + (l + 1) / 2 + (0 + 1) / 2; omega, by show false = true ↔ (0 : Int) % 2 = 1; simp⟩
      | false => exact ⟨Int.le_refl _, by show ((c : Nat) : Int) = f + (l + 1) / 2 + (0 + 1) / 2; omega, by show false = true ↔ (0 : Int) % 2 = 1; simp⟩
abbrev inB (ns ms : List Int) (i : Nat) : Bool := decide (((i : Nat) : Int) ∈ bordersL ns ms)
theorem cost_grd (ns ms : List Int) : costL ns ms = (((grd (inB ns ms) (ns.length + 2)).1 : Nat) : Int) ∧ (grd (inB ns ms) (ns.length + 2)).2 = false := by
  obtain ⟨_, h1, h2⟩ := cfold_grd (bordersL ns ms) (ns.length + 2)
  rw [cost_fold] at h1 h2
  refine ⟨by show costL ns ms = _; rw [h1]; show costL ns ms = costL ns ms + (0 + 1) / 2; omega, ?_⟩
  cases z : (grd (inB ns ms) (ns.length + 2)).2 with
  | false => rfl
  | true =>
    have := h2.mp z
    exact absurd (show (0 : Int) % 2 = 1 from this) (by decide)
theorem cost_half (ns ms : List Int) : 2 * costL ns ms ≤ ns.length + 2 := by
  obtain ⟨h1, h2⟩ := cost_grd ns ms
  have := grd_half (inB ns ms) (ns.length + 2)
  rw [h2, if_neg (by decide)] at this
  omega
end K31
set_option Elab.async false
set_option pp.maxSteps 1200
set_option linter.all false
set_option maxRecDepth 100000
set_option maxHeartbeats 4000000
namespace K31
open PySem L2 My
theorem borders_C (ns ms : List Int) : bordersL ns ms = bordersC (flg ns ms) := by
  unfold bordersL bordersC flg
  rw [List.length_map]
  rfl
def gF (fl : List Bool) (q : Nat) : Bool := if q = 0 then false else fl.getD (q - 1) false
theorem flags_gF (fl : List Bool) (q : Nat) : (flagsC fl).getD q false = gF fl q := by
  unfold flagsC gF
  cases q with
  | zero => rfl
  | succ q =>
    rw [if_neg (by omega), List.append_assoc]
    show (fl ++ [false]).getD q false = fl.getD q false
    rw [List.getD_eq_getElem?_getD, List.getD_eq_getElem?_getD]
    by_cases h : q < fl.length
    · rw [List.getElem?_append_left h]
    · rw [List.getElem?_append_right (by omega), List.getElem?_eq_none (l := fl) (by omega)]
      by_cases z : q - fl.length = 0
      · rw [z]
        rfl
      · rw [List.getElem?_eq_none (by simp; omega)]
theorem mem_bC {fl : List Bool} {i : Nat} : ((i : Nat) : Int) ∈ bordersC fl ↔ gF fl i ≠ gF fl (i + 1) := by
  unfold bordersC
  rw [List.mem_filter, List.mem_map]
  constructor
  · rintro ⟨_, h⟩
    rw [flags_gF, flags_gF] at h
    simpa using h
  · intro h
    have il : i < fl.length + 1 := by
      refine Nat.lt_of_not_le fun z => h ?_
      unfold gF
      rw [if_neg (by omega), if_neg (by omega), List.getD_eq_getElem?_getD, List.getD_eq_getElem?_getD, List.getElem?_eq_none (by omega), List.getElem?_eq_none (by omega)]
    refine ⟨⟨i, List.mem_range.mpr il, by omega⟩, ?_⟩
    rw [flags_gF, flags_gF]
    simpa using h
theorem mem_bC_nat {fl : List Bool} {x : Int} (h : x ∈ bordersC fl) : ∃ i : Nat, x = i := by
  unfold bordersC at h
  obtain ⟨i, _, e⟩ := List.mem_map.mp (List.mem_filter.mp h).1
  exact ⟨i, by omega⟩
abbrev inC (fl : List Bool) (i : Nat) : Bool := decide (((i : Nat) : Int) ∈ bordersC fl)
theorem inC_iff {fl : List Bool} {i : Nat} : inC fl i = true ↔ gF fl i ≠ gF fl (i + 1) := by
  unfold inC
  rw [decide_eq_true_iff]
  exact mem_bC
theorem gF_set {fl : List Bool} {p : Nat} {v : Bool} (h : p < fl.length) (q : Nat) : gF (fl.set p v) q = if q = p + 1 then v else gF fl q := by
  unfold gF
  by_cases z : q = 0
  · rw [if_pos z, if_neg (by omega), if_pos z]
  · rw [if_neg z, if_neg z, set_getD h]
    by_cases y : q = p + 1
    · rw [if_pos (by omega), if_pos y]
    · rw [if_neg (by omega), if_neg y]
theorem gF_fill {fl : List Bool} {a p : Nat} (ha : a < fl.length) (hp : p < fl.length) (q : Nat) : gF (fillC fl a p) q = if min a p + 1 ≤ q ∧ q ≤ max a p + 1 then fl.getD a false else gF fl q := by
  unfold gF
  by_cases z : q = 0
  · rw [if_pos z, if_neg (by omega), if_pos z]
  · rw [if_neg z, if_neg z]
    by_cases y : q - 1 < fl.length
    · rw [fill_getD y]
      by_cases x : min a p + 1 ≤ q ∧ q ≤ max a p + 1
      · rw [if_pos (by omega), if_pos x]
      · rw [if_neg (by omega), if_neg x]
    · rw [if_neg (by omega), List.getD_eq_getElem?_getD, List.getD_eq_getElem?_getD, List.getElem?_eq_none (by unfold fillC; rw [List.length_map, List.length_range]; omega), List.getElem?_eq_none (by omega)]
theorem set_new {fl : List Bool} {p : Nat} {v : Bool} (h : p < fl.length) {i : Nat} (hi : inC (fl.set p v) i = true) : inC fl i = true ∨ i = p ∨ i = p + 1 := by
  rw [inC_iff, gF_set h, gF_set h] at hi
  by_cases z : i = p
  · exact .inr (.inl z)
  · by_cases y : i = p + 1
    · exact .inr (.inr y)
    · rw [if_neg y, if_neg (by omega)] at hi
      exact .inl (inC_iff.mpr hi)
def edge (a p : Nat) : Nat := if p < a then p else p + 1
theorem fill_new {fl : List Bool} {a p : Nat} (ha : a < fl.length) (hp : p < fl.length) {i : Nat} (hi : inC (fillC fl a p) i = true) : inC fl i = true ∨ (a ≠ p ∧ i = edge a p) := by
  have ga : gF fl (a + 1) = fl.getD a false := by unfold gF; rw [if_neg (by omega)]; rfl
  rw [inC_iff, gF_fill ha hp, gF_fill ha hp] at hi
  unfold edge
  by_cases h1 : min a p + 1 ≤ i ∧ i ≤ max a p + 1
  · rw [if_pos h1] at hi
    by_cases h2 : min a p + 1 ≤ i + 1 ∧ i + 1 ≤ max a p + 1
    · rw [if_pos h2] at hi
      exact absurd rfl hi
    · rw [if_neg h2] at hi
      -- i = max + 1
      have ei : i = max a p + 1 := by omega
      by_cases z : p < a
      · refine .inl (inC_iff.mpr ?_)
        rw [show i = a + 1 by omega] at hi ⊢
        rw [ga]
        exact hi
      · by_cases y : a = p
        · refine .inl (inC_iff.mpr ?_)
          rw [show i = a + 1 by omega] at hi ⊢
          rw [ga]
          exact hi
        · exact .inr ⟨y, by rw [if_neg z]; omega⟩
  · rw [if_neg h1] at hi
    by_cases h2 : min a p + 1 ≤ i + 1 ∧ i + 1 ≤ max a p + 1
    · rw [if_pos h2] at hi
      have ei : i = min a p := by omega
      by_cases z : p < a
      · exact .inr ⟨by omega, by rw [if_pos z]; omega⟩
      · refine .inl (inC_iff.mpr ?_)
        rw [show i = a by omega] at hi ⊢
        rw [ga]
        exact hi
    · rw [if_neg h2] at hi
      exact .inl (inC_iff.mpr hi)
theorem step_new {fl : List Bool} {a : Option Nat} {m : Mv} (ha : ∀ p, a = some p → p < fl.length) (hp : m.2 < fl.length) {i : Nat} (hi : inC (stepC (fl, a) m).1 i = true) : inC fl i = true ∨ i = m.2 ∨ i = m.2 + 1 := by
  unfold stepC at hi
  by_cases c : m.1 = true ∧ a.isSome = true
  · rw [if_pos c] at hi
    cases a with
    | none => exact absurd c.2 (by decide)
    | some q =>
      rcases fill_new (ha q rfl) hp hi with z | ⟨_, z⟩
      · exact .inl z
      · unfold edge at z
        split at z
        · exact .inr (.inl z)
        · exact .inr (.inr z)
  · rw [if_neg c] at hi
    exact set_new hp hi
theorem step_edge {fl : List Bool} {q p : Nat} (hq : q < fl.length) (hp : p < fl.length) {i : Nat} (hi : inC (stepC (fl, some q) (true, p)).1 i = true) : inC fl i = true ∨ i = edge q p := by
  have hi : inC (fillC fl q p) i = true := by
    unfold stepC at hi
    rw [if_pos ⟨rfl, rfl⟩] at hi
    exact hi
  exact (fill_new hq hp hi).imp id And.right
def costN (fl : List Bool) : Nat := (grd (inC fl) (fl.length + 2)).1
theorem costL_N (ns ms : List Int) : costL ns ms = (costN (flg ns ms) : Nat) := by
  rw [(cost_grd ns ms).1]
  unfold costN
  have : inB ns ms = inC (flg ns ms) := by
    unfold inB inC
    rw [borders_C]
  rw [this, show (flg ns ms).length = ns.length by simp [flg]]
theorem step_len {fl : List Bool} {a : Option Nat} {m : Mv} : (stepC (fl, a) m).1.length = fl.length := by
  unfold stepC
  split
  · show (fillC _ _ _).length = _
    unfold fillC
    rw [List.length_map, List.length_range]
  · exact List.length_set
theorem step_cost {fl : List Bool} {a : Option Nat} {m : Mv} (ha : ∀ p, a = some p → p < fl.length) (hp : m.2 < fl.length) : costN (stepC (fl, a) m).1 ≤ costN fl + 1 := by
  unfold costN
  rw [step_len]
  exact grd_near (d := m.2) _ fun i _ hi => step_new ha hp hi
theorem way_cost {n : Nat} : ∀ (p : List Mv) (s : Sc), VS n s → (∀ m ∈ p, m ∈ movesC n) → costN (p.foldl stepC s).1 ≤ costN s.1 + p.length
  | [], s, _, _ => Nat.le_refl _
  | m :: p, s, v, h => by
    have hm : m.2 < n := by
      have := h m List.mem_cons_self
      unfold movesC at this
      rcases List.mem_append.mp this with z | z
      · obtain ⟨i, hi, rfl⟩ := List.mem_map.mp z
        exact List.mem_range.mp hi
      · obtain ⟨i, hi, rfl⟩ := List.mem_map.mp z
        exact List.mem_range.mp hi
    have ih := way_cost p (stepC s m) (vs_step v hm) fun x hx => h x (List.mem_cons_of_mem _ hx)
    have c := step_cost (fl := s.1) (a := s.2) (m := m) (by rw [v.len]; exact v.anc) (by rw [v.len]; exact hm)
    have c : costN (stepC s m).1 ≤ costN s.1 + 1 := c
    show costN (p.foldl stepC (stepC s m)).1 ≤ costN s.1 + (p.length + 1)
    omega
theorem cost_empty {fl : List Bool} (h : ∀ q, fl.getD q false = false) : costN fl = 0 := by
  unfold costN
  rw [grd_none]
  intro i _
  cases z : inC fl i with
  | false => rfl
  | true =>
    have := inC_iff.mp z
    unfold gF at this
    rw [h, h] at this
    simp at this
end K31
set_option Elab.async false
set_option pp.maxSteps 1200
set_option linter.all false
set_option maxRecDepth 1000000
set_option maxHeartbeats 4000000
namespace K31
open PySem L2 My
def pathC (fl : List Bool) : List Mv := (clicksL (coverL (blocksL (bordersC fl)) 0)).map fun c => (decide (c.1 = ("range" : Str)), c.2.toNat)
def allFl : Nat → List (List Bool)
  | 0 => [[]]
  | n + 1 => (allFl n).flatMap fun f => [false :: f, true :: f]
theorem allFl_mem : ∀ {n : Nat} {f : List Bool}, f.length = n → f ∈ allFl n
  | 0, [], _ => List.mem_singleton.mpr rfl
  | 0, _ :: _, h => by simp at h
  | n + 1, [], h => by simp at h
  | n + 1, b :: f, h => by
    refine List.mem_flatMap.mpr ⟨f, allFl_mem (by simpa using h), ?_⟩
    cases b
    · exact List.mem_cons_self
    · exact List.mem_cons_of_mem _ List.mem_cons_self
def exOk (n : Nat) (f : List Bool) (a : Option Nat) : Bool := decide (((pathC f).foldl stepC (List.replicate n false, a)).1 = f) && (decide ((pathC f).length = costN f) && (pathC f).all fun m => decide (m ∈ movesC n))
def exAll (k : Nat) : Bool := (List.range k).all fun n => (allFl n).all fun f => exOk n f none && (List.range n).all fun a => exOk n f (some a)
theorem ex_all : exAll 6 = true := by decide +kernel
theorem ex_at {n : Nat} (h : n ≤ 5) {f : List Bool} (hf : f.length = n) {a : Option Nat} (ha : ∀ p, a = some p → p < n) : exOk n f a = true := by
  have h1 := List.all_eq_true.mp ex_all n (List.mem_range.mpr (by omega))
  have h2 := List.all_eq_true.mp h1 f (allFl_mem hf)
  rw [Bool.and_eq_true] at h2
  cases a with
  | none => exact h2.1
  | some p => exact List.all_eq_true.mp h2.2 p (List.mem_range.mpr (ha p rfl))
theorem ex_path {n : Nat} (h : n ≤ 5) {f : List Bool} (hf : f.length = n) {a : Option Nat} (ha : ∀ p, a = some p → p < n) : ∃ p, leads (List.replicate n false, a) f p ∧ p.length = costN f ∧ ∀ m ∈ p, m ∈ movesC n := by
  have := ex_at h hf ha
  unfold exOk at this
  rw [Bool.and_eq_true, Bool.and_eq_true] at this
  exact ⟨pathC f, by unfold leads; exact of_decide_eq_true this.1, of_decide_eq_true this.2.1, fun m hm => of_decide_eq_true (List.all_eq_true.mp this.2.2 m hm)⟩
/-- the fewest from no marks are as many as the cost -/
theorem few_cost {n : Nat} (h : n ≤ 5) {f : List Bool} (hf : f.length = n) {a : Option Nat} (ha : ∀ p, a = some p → p < n) {p : List Mv} (hl : leads (List.replicate n false, a) f p) (hp : ∀ m ∈ p, m ∈ movesC n) (hm : ∀ p', (∀ m ∈ p', m ∈ movesC n) → leads (List.replicate n false, a) f p' → p.length ≤ p'.length) : p.length = costN f := by
  obtain ⟨p', h1, h2, h3⟩ := ex_path h hf ha
  have a1 := hm p' h3 h1
  have a2 := way_cost p (List.replicate n false, a) ⟨List.length_replicate, ha⟩ hp
  rw [show (p.foldl stepC (List.replicate n false, a)).1 = f from hl] at a2
  have a3 : costN (List.replicate n false) = 0 := cost_empty fun q => by
    rw [List.getD_eq_getElem?_getD, List.getElem?_replicate]
    split <;> rfl
  have a2 : costN f ≤ costN (List.replicate n false) + p.length := a2
  omega
end K31
set_option Elab.async false
set_option pp.maxSteps 1200
set_option linter.all false
set_option maxRecDepth 100000
set_option maxHeartbeats 4000000
namespace K31
open PySem L2 My
abbrev fls (ns : List Int) (f : Int → Bool) : List Bool := ns.map f
theorem fls_at {ns : List Int} {f : Int → Bool} {i : Nat} {r : Int} (h : ns[i]? = some r) : (fls ns f).getD i false = f r := by
  rw [List.getD_eq_getElem?_getD, List.getElem?_map, h]
  rfl
theorem fls_ext {ns : List Int} {f : Int → Bool} {g : List Bool} (hg : g.length = ns.length) (h : ∀ i r, ns[i]? = some r → f r = g.getD i false) : fls ns f = g := by
  refine flag_ext (n := ns.length) (by simp) hg fun i hi => ?_
  have hr : ns[i]? = some ns[i] := List.getElem?_eq_getElem hi
  rw [fls_at hr, h i _ hr]
theorem pos_row {ns : List Int} (nd : ns.Nodup) {p : Nat} (hp : p < ns.length) : posA ns (some (rowAt ns (p : Nat))) = some p := by
  have gr := get_row hp
  show (if ns.getD p 0 ∈ ns then some (ns.idxOf (ns.getD p 0)) else none) = _
  rw [if_pos (List.mem_of_getElem? gr), idx_of nd gr]
/-- a click by rows and by places -/
theorem step_gen {ns : List Int} (nd : ns.Nodup) (f : Int → Bool) (an : Option Int) {b : Bool} {p : Nat} (hp : p < ns.length) :
    fls ns (step ns (f, an) (wordC b, (p : Int))).1 = (stepC (fls ns f, posA ns an) (b, p)).1 ∧ posA ns (step ns (f, an) (wordC b, (p : Int))).2 = (stepC (fls ns f, posA ns an) (b, p)).2 ∧ (∀ r, r ∉ ns → (step ns (f, an) (wordC b, (p : Int))).1 r = f r) ∧ (step ns (f, an) (wordC b, (p : Int))).2 = (if b = true ∧ (posA ns an).isSome = true then an else some (rowAt ns (p : Nat))) := by
  have lf : (fls ns f).length = ns.length := by simp
  have click : rng ns (wordC b) an = none → ¬ (b = true ∧ (posA ns an).isSome = true) → fls ns (step ns (f, an) (wordC b, (p : Int))).1 = (stepC (fls ns f, posA ns an) (b, p)).1 ∧ posA ns (step ns (f, an) (wordC b, (p : Int))).2 = (stepC (fls ns f, posA ns an) (b, p)).2 ∧ (∀ r, r ∉ ns → (step ns (f, an) (wordC b, (p : Int))).1 r = f r) ∧ (step ns (f, an) (wordC b, (p : Int))).2 = (if b = true ∧ (posA ns an).isSome = true then an else some (rowAt ns (p : Nat))) := fun h c => by
    rw [step_cl h]
    have es : stepC (fls ns f, posA ns an) (b, p) = ((fls ns f).set p (!(fls ns f).getD p false), some p) := by
      unfold stepC
      rw [if_neg c]
    rw [es, if_neg c]
    refine ⟨fls_ext (by rw [List.length_set, lf]) fun i r hr => ?_, pos_row nd hp, fun r hr => ?_, rfl⟩
    · rw [set_getD (by omega)]
      have er : (r = rowAt ns (p : Int)) ↔ i = p := by
        constructor
        · intro z
          exact inj_at nd hr (by rw [z]; exact get_row hp)
        · intro z
          have := get_row hp
          rw [← z, hr] at this
          rw [Option.some.inj this, z]
          rfl
      show (if r = rowAt ns (p : Int) then !f r else f r) = _
      by_cases z : i = p
      · rw [if_pos (er.mpr z), if_pos z, ← z, fls_at hr]
      · rw [if_neg (fun y => z (er.mp y)), if_neg z, fls_at hr]
    · show (if r = rowAt ns (p : Int) then !f r else f r) = f r
      rw [if_neg (fun z => hr (by rw [z]; exact List.mem_of_getElem? (get_row hp)))]
  cases b with
  | false =>
    refine click ?_ (fun z => Bool.noConfusion z.1)
    unfold rng
    cases an with
    | none => rfl
    | some n => exact if_neg (fun z => absurd z.1 (by decide))
  | true =>
    cases an with
    | none => exact click rfl (fun z => Bool.noConfusion z.2)
    | some n =>
      by_cases hm : n ∈ ns
      · have hr : rng ns (wordC true) (some n) = some n := by
          show (if wordC true = "range" ∧ n ∈ ns then some n else none) = _
          rw [if_pos ⟨rfl, hm⟩]
        have hpa : posA ns (some n) = some (ns.idxOf n) := if_pos hm
        have hq : ns.idxOf n < ns.length := List.idxOf_lt_length_iff.mpr hm
        have gq : ns[ns.idxOf n]? = some n := by
          rw [List.getElem?_eq_getElem hq]
          exact congrArg some (List.getElem_idxOf hq)
        have es : stepC (fls ns f, posA ns (some n)) (true, p) = (fillC (fls ns f) (ns.idxOf n) p, some (ns.idxOf n)) := by
          unfold stepC
          rw [hpa, if_pos ⟨rfl, rfl⟩]
          rfl
        rw [step_rng hr, es]
        refine ⟨fls_ext (by unfold fillC; rw [List.length_map, List.length_range, lf]) fun i r hir => ?_, hpa, fun r hr => ?_, by rw [if_pos ⟨rfl, by rw [hpa]; rfl⟩]⟩
        · have hi : i < (fls ns f).length := by rw [lf]; exact (List.getElem?_eq_some_iff.mp hir).1
          have er : r ∈ span ns (ns.idxOf n) p ↔ min (ns.idxOf n) p ≤ i ∧ i ≤ max (ns.idxOf n) p := by
            rw [span_mem]
            constructor
            · rintro ⟨j, h1, h2, h3⟩
              obtain rfl := inj_at nd hir h3
              exact ⟨h1, h2⟩
            · rintro ⟨h1, h2⟩
              exact ⟨i, h1, h2, hir⟩
          show (if r ∈ span ns (ns.idxOf n) p then f n else f r) = _
          rw [fill_getD hi, fls_at gq, fls_at hir]
          by_cases z : min (ns.idxOf n) p ≤ i ∧ i ≤ max (ns.idxOf n) p
          · rw [if_pos (er.mpr z), if_pos z]
          · rw [if_neg (fun y => z (er.mp y)), if_neg z]
        · show (if r ∈ span ns (ns.idxOf n) p then f n else f r) = f r
          rw [if_neg (fun z => hr (by
            obtain ⟨j, _, _, h3⟩ := span_mem.mp z
            exact List.mem_of_getElem? h3))]
      · refine click ?_ (fun z => ?_)
        · show (if wordC true = "range" ∧ n ∈ ns then some n else none) = _
          rw [if_neg (fun z => hm z.2)]
        · have : posA ns (some n) = none := if_neg hm
          rw [this] at z
          exact Bool.noConfusion z.2
def clM (m : Mv) : Cl := (wordC m.1, (m.2 : Nat))
/-- many clicks -/
theorem done_gen {ns : List Int} (nd : ns.Nodup) : ∀ (cs : List Mv) (f : Int → Bool) (an : Option Int), (∀ m ∈ cs, m.2 < ns.length) → fls ns ((cs.map clM).foldl (step ns) (f, an)).1 = (cs.foldl stepC (fls ns f, posA ns an)).1 ∧ posA ns ((cs.map clM).foldl (step ns) (f, an)).2 = (cs.foldl stepC (fls ns f, posA ns an)).2 ∧ (∀ r, r ∉ ns → ((cs.map clM).foldl (step ns) (f, an)).1 r = f r)
  | [], f, an, _ => ⟨rfl, rfl, fun _ _ => rfl⟩
  | m :: cs, f, an, h => by
    obtain ⟨h1, h2, h3, _⟩ := step_gen nd f an (b := m.1) (h m List.mem_cons_self)
    obtain ⟨i1, i2, i3⟩ := done_gen nd cs (step ns (f, an) (clM m)).1 (step ns (f, an) (clM m)).2 fun x hx => h x (List.mem_cons_of_mem _ hx)
    have h1 : fls ns (step ns (f, an) (clM m)).1 = (stepC (fls ns f, posA ns an) m).1 := h1
    have h2 : posA ns (step ns (f, an) (clM m)).2 = (stepC (fls ns f, posA ns an) m).2 := h2
    rw [h1, h2] at i1 i2
    refine ⟨i1, i2, fun r hr => ?_⟩
    have := i3 r hr
    have h3 : (step ns (f, an) (clM m)).1 r = f r := h3 r hr
    rw [h3] at this
    exact this
end K31
set_option Elab.async false
set_option pp.maxSteps 1200
set_option linter.all false
set_option maxRecDepth 100000
set_option maxHeartbeats 4000000
/-! Clicks of covers lead to the marks. -/
namespace K31
open PySem L2 My
/-! parity -/
def parS : List Nat → Nat → Bool
  | [], _ => false
  | x :: r, q => decide (x < q) != parS r q
theorem xor3 (a b c : Bool) : (a != (b != c)) = ((a != b) != c) := by cases a <;> cases b <;> cases c <;> rfl
theorem parS_app : ∀ (s t : List Nat) (q : Nat), parS (s ++ t) q = (parS s q != parS t q)
  | [], t, q => by
    show parS t q = (false != parS t q)
    cases parS t q <;> rfl
  | x :: s, t, q => by
    show (decide (x < q) != parS (s ++ t) q) = ((decide (x < q) != parS s q) != parS t q)
    rw [parS_app s t q, xor3]
theorem parS_zero : ∀ l : List Nat, parS l 0 = false
  | [] => rfl
  | x :: r => by
    show (decide (x < 0) != parS r 0) = false
    rw [parS_zero r, decide_eq_false (Nat.not_lt_zero x)]
    rfl
theorem parS_succ : ∀ {l : List Nat} (q : Nat), l.Nodup → parS l (q + 1) = (parS l q != decide (q ∈ l))
  | [], q, _ => by simp [parS]
  | x :: r, q, nd => by
    obtain ⟨h1, h2⟩ := List.nodup_cons.mp nd
    show (decide (x < q + 1) != parS r (q + 1)) = ((decide (x < q) != parS r q) != decide (q ∈ x :: r))
    rw [parS_succ q h2]
    by_cases e : q = x
    · subst e
      rw [decide_eq_false h1, decide_eq_true (show q < q + 1 by omega), decide_eq_false (show ¬ q < q by omega), decide_eq_true List.mem_cons_self]
      cases parS r q <;> rfl
    · have : (q ∈ x :: r) ↔ q ∈ r := by simp [e]
      rw [show decide (q ∈ x :: r) = decide (q ∈ r) by rw [decide_eq_decide]; exact this]
      have : decide (x < q + 1) = decide (x < q) := by rw [decide_eq_decide]; omega
      rw [this, xor3]
/-- flags by the parity of their borders -/
theorem gF_par {fl : List Bool} {l : List Nat} (nd : l.Nodup) (h : ∀ i, i ∈ l ↔ inC fl i = true) : ∀ q, gF fl q = parS l q
  | 0 => by rw [parS_zero]; rfl
  | q + 1 => by
    rw [parS_succ q nd, ← gF_par nd h q]
    by_cases m : q ∈ l
    · have := inC_iff.mp ((h q).mp m)
      rw [decide_eq_true m]
      revert this
      cases gF fl q <;> cases gF fl (q + 1) <;> simp
    · have : ¬ gF fl q ≠ gF fl (q + 1) := fun z => m ((h q).mpr (inC_iff.mpr z))
      rw [decide_eq_false m]
      revert this
      cases gF fl q <;> cases gF fl (q + 1) <;> simp
theorem gF_ext {f g : List Bool} {n : Nat} (hf : f.length = n) (hg : g.length = n) (h : ∀ q, gF f q = gF g q) : f = g := by
  refine flag_ext hf hg fun i hi => ?_
  have := h (i + 1)
  unfold gF at this
  rw [if_neg (by omega), if_neg (by omega)] at this
  exact this
/-! singles by twos -/
def prM : List Nat → List Mv
  | a :: b :: r => (false, a) :: (true, b - 1) :: prM r
  | _ => []
theorem click_gF {fl : List Bool} {a : Option Nat} {p : Nat} (hp : p < fl.length) (q : Nat) : gF (stepC (fl, a) (false, p)).1 q = (gF fl q != decide (q = p + 1)) := by
  have e : stepC (fl, a) (false, p) = (fl.set p (!fl.getD p false), some p) := by
    unfold stepC
    rw [if_neg (fun z => Bool.noConfusion z.1)]
  rw [e]
  show gF (fl.set p (!fl.getD p false)) q = _
  rw [gF_set hp]
  by_cases z : q = p + 1
  · rw [if_pos z, decide_eq_true z]
    have : gF fl q = fl.getD p false := by
      unfold gF
      rw [if_neg (by omega), z]
      rfl
    rw [this]
    cases fl.getD p false <;> rfl
  · rw [if_neg z, decide_eq_false z]
    cases gF fl q <;> rfl
theorem singles_lead {n : Nat} : ∀ (s : List Nat) (fl : List Bool) (an : Option Nat), fl.length = n → s.Pairwise (· < ·) → s.length % 2 = 0 → (∀ x ∈ s, x ≤ n) → (∀ x ∈ s, ∀ q, x < q → gF fl q = false) → ((prM s).foldl stepC (fl, an)).1.length = n ∧ ∀ q, gF ((prM s).foldl stepC (fl, an)).1 q = (gF fl q != parS s q)
  | [], fl, an, hl, _, _, _, _ => ⟨hl, fun q => by show gF fl q = (gF fl q != false); cases gF fl q <;> rfl⟩
  | [x], _, _, _, _, h, _, _ => by simp at h
  | a :: b :: r, fl, an, hl, pw, ev, hn, z => by
    obtain ⟨p1, p2⟩ := List.pairwise_cons.mp pw
    obtain ⟨p3, p4⟩ := List.pairwise_cons.mp p2
    have ab := p1 b List.mem_cons_self
    have bn := hn b (by simp)
    have za := z a List.mem_cons_self
    -- after both clicks
    have c1 : ∀ q, gF (stepC (fl, an) (false, a)).1 q = (gF fl q != decide (q = a + 1)) := click_gF (by omega)
    have l1 : (stepC (fl, an) (false, a)).1.length = n := by rw [step_len]; exact hl
    have an1 : (stepC (fl, an) (false, a)).2 = some a := by
      unfold stepC
      rw [if_neg (fun z => Bool.noConfusion z.1)]
    obtain ⟨f1, hf1⟩ : ∃ f1, f1 = (stepC (fl, an) (false, a)).1 := ⟨_, rfl⟩
    have s1 : stepC (fl, an) (false, a) = (f1, some a) := Prod.ext hf1.symm an1
    rw [← hf1] at c1 l1
    have s2 : stepC (f1, some a) (true, b - 1) = (fillC f1 a (b - 1), some a) := by
      unfold stepC
      rw [if_pos ⟨rfl, rfl⟩]
      rfl
    have l2 : (fillC f1 a (b - 1)).length = n := by
      unfold fillC
      rw [List.length_map, List.length_range, l1]
    have ga : f1.getD a false = true := by
      have := c1 (a + 1)
      rw [za (a + 1) (by omega), decide_eq_true rfl] at this
      unfold gF at this
      rw [if_neg (by omega)] at this
      exact this
    have c2 : ∀ q, gF (fillC f1 a (b - 1)) q = (gF fl q != (decide (a < q) != decide (b < q))) := fun q => by
      rw [gF_fill (by omega) (by omega), ga, show min a (b - 1) = a by omega, show max a (b - 1) = b - 1 by omega, c1 q]
      by_cases h1 : a < q
      · rw [za q h1]
        by_cases h2 : b < q
        · rw [if_neg (by omega), decide_eq_true h1, decide_eq_true h2, decide_eq_false (show ¬ q = a + 1 by omega)]
          rfl
        · rw [if_pos (by omega), decide_eq_true h1, decide_eq_false h2]
          rfl
      · rw [if_neg (by omega), decide_eq_false h1, decide_eq_false (show ¬ b < q by omega), decide_eq_false (show ¬ q = a + 1 by omega)]
        rfl
    have ih := singles_lead r (fillC f1 a (b - 1)) (some a) l2 p4 (by simp only [List.length_cons] at ev; omega) (fun x hx => hn x (by simp [hx])) fun x hx q hq => by
      have := p3 x hx
      rw [c2 q, za q (by omega), decide_eq_true (show a < q by omega), decide_eq_true (show b < q by omega)]
      rfl
    have e : (prM (a :: b :: r)).foldl stepC (fl, an) = (prM r).foldl stepC (fillC f1 a (b - 1), some a) := by
      show (prM r).foldl stepC (stepC (stepC (fl, an) (false, a)) (true, b - 1)) = _
      rw [s1, s2]
    rw [e]
    refine ⟨ih.1, fun q => ?_⟩
    rw [ih.2 q, c2 q]
    show _ = (gF fl q != (decide (a < q) != (decide (b < q) != parS r q)))
    cases gF fl q <;> cases decide (a < q) <;> cases decide (b < q) <;> cases parS r q <;> rfl
theorem clicks_lead {n : Nat} : ∀ (s : List Nat) (fl : List Bool) (an : Option Nat), fl.length = n → (∀ x ∈ s, x < n) → ((s.map fun p => (false, p)).foldl stepC (fl, an)).1.length = n ∧ ∀ q, gF ((s.map fun p => (false, p)).foldl stepC (fl, an)).1 q = (gF fl q != parS (s.flatMap fun p => [p, p + 1]) q)
  | [], fl, an, hl, _ => ⟨hl, fun q => by show gF fl q = (gF fl q != false); cases gF fl q <;> rfl⟩
  | p :: s, fl, an, hl, h => by
    have hp := h p List.mem_cons_self
    obtain ⟨f1, hf1⟩ : ∃ f1, f1 = (stepC (fl, an) (false, p)).1 := ⟨_, rfl⟩
    have c1 := click_gF (fl := fl) (a := an) (p := p) (by omega)
    have l1 : (stepC (fl, an) (false, p)).1.length = n := by rw [step_len]; exact hl
    have e : ((p :: s).map fun p => ((false, p) : Mv)).foldl stepC (fl, an) = (s.map fun p => ((false, p) : Mv)).foldl stepC ((stepC (fl, an) (false, p)).1, (stepC (fl, an) (false, p)).2) := rfl
    rw [e]
    have ih := clicks_lead s (stepC (fl, an) (false, p)).1 (stepC (fl, an) (false, p)).2 l1 fun x hx => h x (List.mem_cons_of_mem _ hx)
    refine ⟨ih.1, fun q => ?_⟩
    rw [ih.2 q, c1 q]
    show _ = (gF fl q != (decide (p < q) != (decide (p + 1 < q) != parS (s.flatMap fun p => [p, p + 1]) q)))
    rw [← xor3]
    congr 1
    have : decide (q = p + 1) = (decide (p < q) != decide (p + 1 < q)) := by
      by_cases h1 : p < q
      · by_cases h2 : p + 1 < q
        · rw [decide_eq_true h1, decide_eq_true h2, decide_eq_false (show ¬ q = p + 1 by omega)]; rfl
        · rw [decide_eq_true h1, decide_eq_false h2, decide_eq_true (show q = p + 1 by omega)]; rfl
      · rw [decide_eq_false h1, decide_eq_false (show ¬ p + 1 < q by omega), decide_eq_false (show ¬ q = p + 1 by omega)]; rfl
    rw [this, xor3]
/-! covers -/
/-- a token: one border, or two beside one another -/
def TokN (t : List Int) : Prop := (∃ b : Nat, t = [(b : Int)]) ∨ ∃ b : Nat, t = [(b : Int), (b : Int) + 1]
def sgN (T : List (List Int)) : List Nat := (singlesL T).map Int.toNat
def prN (T : List (List Int)) : List Nat := (T.filter fun t => decide (t.length = 2)).map fun t => (t.getD 0 0).toNat
def movesT (T : List (List Int)) : List Mv := prM (sgN T) ++ (prN T).map fun p => (false, p)
theorem pairs_mv : ∀ l : List Int, l.Pairwise (· < ·) → (∀ x ∈ l, 0 ≤ x) → pairsL l = (prM (l.map Int.toNat)).map clM
  | [], _, _ => rfl
  | [x], _, _ => rfl
  | a :: b :: r, pw, h => by
    obtain ⟨p1, p2⟩ := List.pairwise_cons.mp pw
    obtain ⟨_, p4⟩ := List.pairwise_cons.mp p2
    have ab := p1 b List.mem_cons_self
    have a0 := h a List.mem_cons_self
    show (("click" : Str), a) :: (("range" : Str), b - 1) :: pairsL r = (("click" : Str), ((a.toNat : Nat) : Int)) :: (("range" : Str), ((b.toNat - 1 : Nat) : Int)) :: (prM (r.map Int.toNat)).map clM
    rw [pairs_mv r p4 fun x hx => h x (by simp [hx]), show ((a.toNat : Nat) : Int) = a by omega, show ((b.toNat - 1 : Nat) : Int) = b - 1 by omega]
theorem parS_perm {l m : List Nat} (h : l.Perm m) (q : Nat) : parS l q = parS m q := by
  induction h with
  | nil => rfl
  | cons x _ ih => show (_ != _) = (_ != _); rw [ih]
  | swap x y l =>
    show (decide (y < q) != (decide (x < q) != parS l q)) = (decide (x < q) != (decide (y < q) != parS l q))
    cases decide (y < q) <;> cases decide (x < q) <;> cases parS l q <;> rfl
  | trans _ _ i1 i2 => exact i1.trans i2
theorem tok_perm : ∀ {T : List (List Int)}, (∀ t ∈ T, TokN t) → (sgN T ++ (prN T).flatMap fun p => [p, p + 1]).Perm (T.flatten.map Int.toNat)
  | [], _ => .nil
  | t :: T, h => by
    have ih := tok_perm (T := T) fun x hx => h x (List.mem_cons_of_mem _ hx)
    rcases h t List.mem_cons_self with ⟨b, rfl⟩ | ⟨b, rfl⟩
    · show (b :: (sgN T ++ (prN T).flatMap fun p => [p, p + 1])).Perm (b :: T.flatten.map Int.toNat)
      exact ih.cons b
    · have e : ((b : Int) + 1).toNat = b + 1 := by omega
      show (sgN T ++ (b :: (b + 1) :: (prN T).flatMap fun p => [p, p + 1])).Perm (b :: ((b : Int) + 1).toNat :: T.flatten.map Int.toNat)
      rw [e]
      refine List.perm_middle.trans (List.Perm.cons b ?_)
      exact List.perm_middle.trans (ih.cons (b + 1))
theorem sg_sub {T : List (List Int)} : (singlesL T).Sublist T.flatten ∨ True := .inr trivial
theorem sg_list : ∀ {T : List (List Int)}, (∀ t ∈ T, TokN t) → (singlesL T).Sublist T.flatten
  | [], _ => List.Sublist.refl _
  | t :: T, h => by
    have ih := sg_list (T := T) fun x hx => h x (List.mem_cons_of_mem _ hx)
    rcases h t List.mem_cons_self with ⟨b, rfl⟩ | ⟨b, rfl⟩
    · show ((b : Int) :: singlesL T).Sublist ((b : Int) :: T.flatten)
      exact ih.cons_cons _
    · show (singlesL T).Sublist ((b : Int) :: ((b : Int) + 1) :: T.flatten)
      exact (ih.cons _).cons _
/-- the clicks of a cover, by places -/
theorem clicks_mv {T : List (List Int)} (h : ∀ t ∈ T, TokN t) (pw : T.flatten.Pairwise (· < ·)) : clicksL T = (movesT T).map clM := by
  unfold clicksL movesT
  have s := sg_list h
  have nn : ∀ x ∈ T.flatten, 0 ≤ x := fun x hx => by
    obtain ⟨t, ht, hx⟩ := List.mem_flatten.mp hx
    rcases h t ht with ⟨b, rfl⟩ | ⟨b, rfl⟩
    · rw [List.mem_singleton.mp hx]; omega
    · rcases List.mem_cons.mp hx with z | z
      · rw [z]; omega
      · rw [List.mem_singleton.mp z]; omega
  rw [List.map_append, pairs_mv _ (pw.sublist s) (fun x hx => nn x (s.subset hx))]
  congr 1
  unfold prN
  rw [List.map_map, List.map_map]
  refine List.map_congr_left fun t ht => ?_
  obtain ⟨ht, h2⟩ := List.mem_filter.mp ht
  rcases h t ht with ⟨b, rfl⟩ | ⟨b, rfl⟩
  · exact absurd h2 (by simp)
  · show (("click" : Str), (b : Int)) = (wordC false, ((((b : Int)).toNat : Nat) : Int))
    rw [show ((((b : Int)).toNat : Nat) : Int) = (b : Int) by omega]
    rfl
/-- .. lead from nothing to the marks of which they are the borders -/
theorem cover_lead {n : Nat} {fl : List Bool} {T : List (List Int)} {a : Option Nat} (hl : fl.length = n) (h : ∀ t ∈ T, TokN t) (e : T.flatten = bordersC fl) (pw : T.flatten.Pairwise (· < ·)) (ev : (singlesL T).length % 2 = 0) (le : ∀ x ∈ T.flatten, x ≤ (n : Int)) : ((movesT T).foldl stepC (List.replicate n false, a)).1 = fl ∧ ∀ m ∈ movesT T, m.2 < n := by
  have s := sg_list h
  have nn : ∀ x ∈ T.flatten, 0 ≤ x := fun x hx => by
    rw [e] at hx
    obtain ⟨i, rfl⟩ := mem_bC_nat hx
    omega
  have pn : ∀ {l : List Int}, l.Pairwise (· < ·) → (∀ x ∈ l, 0 ≤ x) → (l.map Int.toNat).Pairwise (· < ·) := fun {l} pw h0 => by
    rw [List.pairwise_map]
    exact pw.imp_of_mem fun {x y} hx hy hxy => by have := h0 x hx; have := h0 y hy; omega
  have g0 : ∀ q, gF (List.replicate n false) q = false := fun q => by
    unfold gF
    split
    · rfl
    · rw [List.getD_eq_getElem?_getD, List.getElem?_replicate]
      split <;> rfl
  have sg := singles_lead (n := n) (sgN T) (List.replicate n false) a (by simp) (pn (pw.sublist s) fun x hx => nn x (s.subset hx)) (by unfold sgN; rw [List.length_map]; exact ev) (fun x hx => by
    obtain ⟨y, hy, rfl⟩ := List.mem_map.mp hx
    have := le y (s.subset hy)
    omega) (fun _ _ q _ => g0 q)
  have pr : ∀ x ∈ prN T, x < n := fun x hx => by
    unfold prN at hx
    obtain ⟨t, ht, rfl⟩ := List.mem_map.mp hx
    obtain ⟨ht, h2⟩ := List.mem_filter.mp ht
    rcases h t ht with ⟨b, rfl⟩ | ⟨b, rfl⟩
    · exact absurd h2 (by simp)
    · have := le ((b : Int) + 1) (List.mem_flatten.mpr ⟨_, ht, by simp⟩)
      show ((b : Int)).toNat < n
      omega
  obtain ⟨st, hst⟩ : ∃ st, st = (prM (sgN T)).foldl stepC (List.replicate n false, a) := ⟨_, rfl⟩
  rw [← hst] at sg
  have cl := clicks_lead (n := n) (prN T) st.1 st.2 sg.1 pr
  have ef : (movesT T).foldl stepC (List.replicate n false, a) = ((prN T).map fun p => ((false, p) : Mv)).foldl stepC (st.1, st.2) := by
    unfold movesT
    rw [List.foldl_append, ← hst]
  refine ⟨?_, fun m hm => ?_⟩
  · rw [ef]
    refine gF_ext cl.1 hl fun q => ?_
    rw [cl.2 q, sg.2 q, g0 q]
    have nd : (T.flatten.map Int.toNat).Nodup := (pn pw nn).imp fun z => by omega
    rw [gF_par (fl := fl) nd (fun i => ?_) q, ← parS_perm (tok_perm h) q, parS_app]
    · cases parS (sgN T) q <;> cases parS ((prN T).flatMap fun p => [p, p + 1]) q <;> rfl
    · unfold inC
      rw [decide_eq_true_iff, ← e, List.mem_map]
      constructor
      · rintro ⟨x, hx, rfl⟩
        have := nn x hx
        rw [show ((x.toNat : Nat) : Int) = x by omega]
        exact hx
      · intro z
        exact ⟨_, z, by omega⟩
  · unfold movesT at hm
    rcases List.mem_append.mp hm with z | z
    · have key : ∀ l : List Nat, l.Pairwise (· < ·) → (∀ x ∈ l, x ≤ n) → ∀ m ∈ prM l, m.2 < n := by
        intro l
        induction l using prM.induct with
        | case1 a b r ih =>
          intro pw h m hm
          obtain ⟨p1, p2⟩ := List.pairwise_cons.mp pw
          obtain ⟨_, p4⟩ := List.pairwise_cons.mp p2
          have ab := p1 b List.mem_cons_self
          have bn := h b (by simp)
          rcases List.mem_cons.mp hm with z | z
          · rw [z]; show a < n; omega
          · rcases List.mem_cons.mp z with z | z
            · rw [z]; show b - 1 < n; omega
            · exact ih p4 (fun x hx => h x (by simp [hx])) m z
        | case2 l hl =>
          intro _ _ m hm
          cases l with
          | nil => cases hm
          | cons x r =>
            cases r with
            | nil => cases hm
            | cons y r => exact absurd rfl (hl x y r)
      exact key (sgN T) (pn (pw.sublist s) fun x hx => nn x (s.subset hx)) (fun x hx => by
        obtain ⟨y, hy, rfl⟩ := List.mem_map.mp hx
        have := le y (s.subset hy)
        omega) m z
    · obtain ⟨p, hp, rfl⟩ := List.mem_map.mp z
      exact pr p hp
end K31
set_option Elab.async false
set_option pp.maxSteps 1200
set_option linter.all false
set_option maxRecDepth 100000
set_option maxHeartbeats 4000000
/-! Best covers in the order of their indexes. -/
namespace K31
open PySem L2 My
def prs (b : Int) : Nat → List (List Int)
  | 0 => []
  | m + 1 => [b, b + 1] :: prs (b + 2) m
def oneJ (b : Int) (m j : Nat) : List (List Int) := prs b j ++ [b + 2 * (j : Int)] :: prs (b + 2 * (j : Int) + 1) (m - j)
def rngI (b : Int) : Nat → List Int
  | 0 => []
  | n + 1 => b :: rngI (b + 1) n
def rngB (k : Bk) : List Int := rngI k.1 (k.2 - k.1 + 1).toNat
theorem rng_app (b : Int) : ∀ n m : Nat, rngI b (n + m) = rngI b n ++ rngI (b + (n : Int)) m
  | 0, m => by simp [rngI]
  | n + 1, m => by
    rw [show n + 1 + m = n + m + 1 by omega]
    show b :: rngI (b + 1) (n + m) = b :: (rngI (b + 1) n ++ rngI (b + ((n + 1 : Nat) : Int)) m)
    rw [rng_app (b + 1) n m, show b + 1 + (n : Int) = b + ((n + 1 : Nat) : Int) by omega]
theorem prs_flat : ∀ (m : Nat) (b : Int), (prs b m).flatten = rngI b (2 * m)
  | 0, _ => rfl
  | m + 1, b => by
    show b :: (b + 1) :: (prs (b + 2) m).flatten = rngI b (2 * m + 1 + 1)
    rw [prs_flat m (b + 2)]
    show b :: (b + 1) :: rngI (b + 2) (2 * m) = b :: (b + 1) :: rngI (b + 1 + 1) (2 * m)
    rw [show b + 1 + 1 = b + 2 by omega]
theorem prs_len : ∀ (m : Nat) (b : Int), (prs b m).length = m
  | 0, _ => rfl
  | m + 1, b => by
    show (prs (b + 2) m).length + 1 = m + 1
    rw [prs_len m]
theorem prs_app : ∀ (i m : Nat) (b : Int), prs b (i + m) = prs b i ++ prs (b + 2 * (i : Int)) m
  | 0, m, b => by simp [prs]
  | i + 1, m, b => by
    rw [show i + 1 + m = i + m + 1 by omega]
    show [b, b + 1] :: prs (b + 2) (i + m) = [b, b + 1] :: (prs (b + 2) i ++ prs (b + 2 * ((i + 1 : Nat) : Int)) m)
    rw [prs_app i m (b + 2), show b + 2 + 2 * (i : Int) = b + 2 * ((i + 1 : Nat) : Int) by omega]
theorem one_flat {b : Int} {m j : Nat} (h : j ≤ m) : (oneJ b m j).flatten = rngI b (2 * m + 1) := by
  unfold oneJ
  rw [List.flatten_append, prs_flat, List.flatten_cons, prs_flat, show 2 * m + 1 = 2 * j + (2 * (m - j) + 1) by omega, rng_app]
  show _ ++ ((b + 2 * (j : Int)) :: rngI (b + 2 * (j : Int) + 1) (2 * (m - j))) = _ ++ ((b + ((2 * j : Nat) : Int)) :: rngI (b + ((2 * j : Nat) : Int) + 1) (2 * (m - j)))
  rw [show b + ((2 * j : Nat) : Int) = b + 2 * (j : Int) by omega]
theorem one_len {b : Int} {m j : Nat} (h : j ≤ m) : (oneJ b m j).length = m + 1 := by
  unfold oneJ
  rw [List.length_append, List.length_cons, prs_len, prs_len]
  omega
/-! the program's blocks -/
theorem go_prs (k : Bk) (c : Int) : ∀ (n m : Nat) (b : Int), ((k.2 - k.1) % 2 ≠ 0 ∨ b > k.1 + 2 * c) → k.2 - b + 1 = 2 * (m : Int) → m ≤ n → coverGo k c n b = prs b m
  | 0, m, b, _, _, h => by
    rw [show m = 0 by omega]
    rfl
  | n + 1, 0, b, _, e, _ => by
    unfold coverGo
    rw [if_neg (by omega)]
    rfl
  | n + 1, m + 1, b, g, e, h => by
    unfold coverGo
    rw [if_pos (by omega), if_neg (by omega), go_prs k c n m (b + 2) (g.imp id fun z => by omega) (by omega) (by omega)]
    rfl
theorem go_one' (k : Bk) (c : Int) (hk : (k.2 - k.1) % 2 = 0) : ∀ (n m j : Nat) (b : Int), b + 2 * (j : Int) = k.1 + 2 * c → k.2 - b = 2 * (m : Int) → j ≤ m → m < n → coverGo k c n b = oneJ b m j
  | 0, m, _, b, _, _, _, h => by omega
  | n + 1, m, 0, b, eb, e, h1, h2 => by
    unfold coverGo
    rw [if_pos (by omega), if_pos ⟨hk, by omega⟩, go_prs k c n m (b + 1) (.inr (by omega)) (by omega) (by omega)]
    unfold oneJ
    show _ = [b + 2 * ((0 : Nat) : Int)] :: prs (b + 2 * ((0 : Nat) : Int) + 1) (m - 0)
    rw [show b + 2 * ((0 : Nat) : Int) = b by omega, Nat.sub_zero]
  | n + 1, m, j + 1, b, eb, e, h1, h2 => by
    unfold coverGo
    rw [if_pos (by omega), if_neg (by omega), go_one' k c hk n (m - 1) j (b + 2) (by omega) (by omega) (by omega) (by omega)]
    unfold oneJ
    show [b, b + 1] :: (prs (b + 2) j ++ [b + 2 + 2 * (j : Int)] :: prs (b + 2 + 2 * (j : Int) + 1) (m - 1 - j)) = [b, b + 1] :: (prs (b + 2) j ++ [b + 2 * ((j + 1 : Nat) : Int)] :: prs (b + 2 * ((j + 1 : Nat) : Int) + 1) (m - (j + 1)))
    rw [show b + 2 + 2 * (j : Int) = b + 2 * ((j + 1 : Nat) : Int) by omega, show m - 1 - j = m - (j + 1) by omega]
/-- a block of even size, or of odd size -/
theorem coverB_even {k : Bk} {c : Int} {m : Nat} (e : k.2 - k.1 + 1 = 2 * (m : Int)) : coverB k c = prs k.1 m ∧ numB k = 1 ∧ costB k = m := by
  refine ⟨?_, ?_, ?_⟩
  · unfold coverB
    exact go_prs k c _ m k.1 (.inl (by omega)) (by omega) (by omega)
  · unfold numB
    rw [if_neg (by omega)]
  · unfold costB
    omega
theorem coverB_odd {k : Bk} {c : Int} {m j : Nat} (e : k.2 - k.1 = 2 * (m : Int)) (hc : c = (j : Int)) (h : j ≤ m) : coverB k c = oneJ k.1 m j := by
  unfold coverB
  exact go_one' k c (by omega) _ m j k.1 (by omega) (by omega) h (by omega)
theorem numB_odd {k : Bk} {m : Nat} (e : k.2 - k.1 = 2 * (m : Int)) : numB k = (m : Int) + 1 ∧ costB k = (m : Int) + 1 := by
  unfold numB costB
  rw [if_pos (by omega)]
  omega
theorem coverB_flat {k : Bk} {c : Int} (hk : k.1 ≤ k.2) (h0 : 0 ≤ c) (h1 : c < numB k) : (coverB k c).flatten = rngB k := by
  unfold rngB
  rcases Int.emod_two_eq (k.2 - k.1) with z | z
  · obtain ⟨m, hm⟩ : ∃ m : Nat, k.2 - k.1 = 2 * (m : Int) := ⟨((k.2 - k.1) / 2).toNat, by omega⟩
    obtain ⟨n1, n2⟩ := numB_odd hm
    rw [coverB_odd (j := c.toNat) hm (by omega) (by omega), one_flat (by omega), show (k.2 - k.1 + 1).toNat = 2 * m + 1 by omega]
  · obtain ⟨m, hm⟩ : ∃ m : Nat, k.2 - k.1 + 1 = 2 * (m : Int) := ⟨((k.2 - k.1 + 1) / 2).toNat, by omega⟩
    rw [(coverB_even hm).1, prs_flat, show (k.2 - k.1 + 1).toNat = 2 * m by omega]
/-! covers of blocks, index by index -/
def cntB (bs : List Bk) : Int := (bs.map numB).foldl (· * ·) 1
theorem cntB_cons (k : Bk) (bs : List Bk) : cntB (k :: bs) = numB k * cntB bs := by
  unfold cntB
  show (bs.map numB).foldl (· * ·) (1 * numB k) = _
  rw [foldl_mul, Int.one_mul]
theorem cntB_pos : ∀ {bs : List Bk}, (∀ k ∈ bs, k.1 ≤ k.2) → 1 ≤ cntB bs
  | [], _ => Int.le_refl _
  | k :: bs, h => by
    rw [cntB_cons]
    have h1 := numB_pos (h k List.mem_cons_self)
    have h2 := cntB_pos (bs := bs) fun x hx => h x (List.mem_cons_of_mem _ hx)
    have := Int.mul_le_mul h1 h2 (by decide) (by omega)
    omega
theorem chG_app (a : List Int) : ∀ (b : List Int) (i : Int), chG (b ++ a) i = chG b i ++ chG a (restG b i)
  | [], i => rfl
  | n :: b, i => by
    show (i % n) :: chG (b ++ a) (i / n) = (i % n) :: (chG b (i / n) ++ chG a (restG b (i / n)))
    rw [chG_app a b]
theorem restG_div : ∀ (l : List Int) (i : Int), (∀ n ∈ l, 1 ≤ n) → restG l i = i / l.foldl (· * ·) 1
  | [], i, _ => by
    show i = i / 1
    omega
  | n :: l, i, h => by
    show restG l (i / n) = i / l.foldl (· * ·) (1 * n)
    rw [restG_div l (i / n) fun m hm => h m (List.mem_cons_of_mem _ hm), Int.one_mul, foldl_mul l n]
    have := h n List.mem_cons_self
    rw [Int.ediv_ediv, if_neg (by omega), Int.sub_zero]
theorem coverL_cons (k : Bk) (bs : List Bk) (ix : Int) (hb : ∀ b ∈ bs, b.1 ≤ b.2) : coverL (k :: bs) ix = coverB k (ix / cntB bs % numB k) ++ coverL bs ix := by
  unfold coverL
  rw [List.map_cons, List.reverse_cons, chG_app, List.reverse_append]
  show (((k :: bs).zip ([restG (bs.map numB).reverse ix % numB k] ++ (chG (bs.map numB).reverse ix).reverse)).flatMap fun kc => coverB kc.1 kc.2) = _
  rw [restG_div _ _ (fun n hn => by
    rw [List.mem_reverse] at hn
    obtain ⟨b, hb', rfl⟩ := List.mem_map.mp hn
    exact numB_pos (hb b hb'))]
  rw [foldl_mul_rev]
  rfl
theorem chG_mod : ∀ (l : List Int) (i : Int) (p : Int), (∀ n ∈ l, 1 ≤ n) → chG l (i + l.foldl (· * ·) 1 * p) = chG l i
  | [], _, _, _ => rfl
  | n :: l, i, p, h => by
    have n1 := h n List.mem_cons_self
    show ((i + l.foldl (· * ·) (1 * n) * p) % n) :: chG l ((i + l.foldl (· * ·) (1 * n) * p) / n) = (i % n) :: chG l (i / n)
    rw [Int.one_mul, foldl_mul l n]
    have e : i + n * l.foldl (· * ·) 1 * p = i + n * (l.foldl (· * ·) 1 * p) := by rw [Int.mul_assoc]
    rw [e, Int.add_mul_emod_self_left, Int.add_mul_ediv_left _ _ (by omega), chG_mod l (i / n) p fun m hm => h m (List.mem_cons_of_mem _ hm)]
theorem coverL_mod {bs : List Bk} (hb : ∀ b ∈ bs, b.1 ≤ b.2) (i p : Int) : coverL bs (i + cntB bs * p) = coverL bs i := by
  unfold coverL cntB
  rw [← foldl_mul_rev, chG_mod]
  intro n hn
  rw [List.mem_reverse] at hn
  obtain ⟨b, hb', rfl⟩ := List.mem_map.mp hn
  exact numB_pos (hb b hb')
/-- the first block's choice and the rest's index -/
theorem coverL_split (k : Bk) (bs : List Bk) (hb : ∀ b ∈ bs, b.1 ≤ b.2) {c i : Int} (hc : 0 ≤ c ∧ c < numB k) (hi : 0 ≤ i ∧ i < cntB bs) : coverL (k :: bs) (i + cntB bs * c) = coverB k c ++ coverL bs i := by
  rw [coverL_cons k bs _ hb, coverL_mod hb]
  congr 2
  have p := cntB_pos hb
  rw [Int.add_mul_ediv_left _ _ (by omega), Int.ediv_eq_zero_of_lt hi.1 hi.2, Int.zero_add, Int.emod_eq_of_lt hc.1 hc.2]
theorem ix_split {k : Bk} {bs : List Bk} (hb : ∀ b ∈ bs, b.1 ≤ b.2) {ix : Int} (h0 : 0 ≤ ix) (h1 : ix < cntB (k :: bs)) : (0 ≤ ix / cntB bs ∧ ix / cntB bs < numB k) ∧ (0 ≤ ix % cntB bs ∧ ix % cntB bs < cntB bs) ∧ ix = ix % cntB bs + cntB bs * (ix / cntB bs) := by
  have p := cntB_pos hb
  rw [cntB_cons] at h1
  refine ⟨⟨Int.ediv_nonneg h0 (by omega), Int.ediv_lt_of_lt_mul (by omega) h1⟩, ⟨Int.emod_nonneg _ (by omega), Int.emod_lt_of_pos _ (by omega)⟩, ?_⟩
  have := Int.emod_add_mul_ediv ix (cntB bs)
  omega
theorem coverL_flat : ∀ {bs : List Bk} (_ : ∀ k ∈ bs, k.1 ≤ k.2) {ix : Int}, 0 ≤ ix → ix < cntB bs → (coverL bs ix).flatten = bs.flatMap rngB
  | [], _, _, _, _ => rfl
  | k :: bs, h, ix, h0, h1 => by
    have hb : ∀ b ∈ bs, b.1 ≤ b.2 := fun b hb => h b (List.mem_cons_of_mem _ hb)
    obtain ⟨c, r, e⟩ := ix_split hb h0 h1
    rw [e, coverL_split k bs hb c r, List.flatten_append, coverB_flat (h k List.mem_cons_self) c.1 c.2, coverL_flat hb r.1 r.2]
    rfl
/-! order -/
def Fore (X Y : List (List Int)) : Prop := ∃ p x y X' Y', X = p ++ x :: X' ∧ Y = p ++ y :: Y' ∧ x < y
theorem Fore.app {X Y A B : List (List Int)} : Fore X Y → Fore (X ++ A) (Y ++ B)
  | ⟨p, x, y, X', Y', e1, e2, h⟩ => ⟨p, x, y, X' ++ A, Y' ++ B, by rw [e1]; simp, by rw [e2]; simp, h⟩
theorem Fore.pre {X Y : List (List Int)} (P : List (List Int)) : Fore X Y → Fore (P ++ X) (P ++ Y)
  | ⟨p, x, y, X', Y', e1, e2, h⟩ => ⟨P ++ p, x, y, X', Y', by rw [e1, List.append_assoc], by rw [e2, List.append_assoc], h⟩
theorem Fore.lt {X Y : List (List Int)} : Fore X Y → X < Y
  | ⟨p, x, y, X', Y', e1, e2, h⟩ => by
    rw [e1, e2]
    clear e1 e2
    induction p with
    | nil => exact List.cons_lt_cons_iff.mpr (.inl h)
    | cons z p ih => exact List.cons_lt_cons_iff.mpr (.inr ⟨rfl, ih⟩)
theorem one_fore {b : Int} {m i j : Nat} (ij : i < j) (jm : j ≤ m) : Fore (oneJ b m i) (oneJ b m j) := by
  obtain ⟨d, rfl⟩ : ∃ d, j = i + (d + 1) := ⟨j - i - 1, by omega⟩
  refine ⟨prs b i, [b + 2 * (i : Int)], [b + 2 * (i : Int), b + 2 * (i : Int) + 1], _, prs (b + 2 * (i : Int) + 2) d ++ [b + 2 * ((i + (d + 1) : Nat) : Int)] :: prs (b + 2 * ((i + (d + 1) : Nat) : Int) + 1) (m - (i + (d + 1))), rfl, ?_, ?_⟩
  · unfold oneJ
    rw [prs_app, List.append_assoc]
    rfl
  · exact List.cons_lt_cons_iff.mpr (.inr ⟨rfl, List.nil_lt_cons _ _⟩)
theorem coverB_fore {k : Bk} {c d : Int} (hk : k.1 ≤ k.2) (h0 : 0 ≤ c) (cd : c < d) (h1 : d < numB k) : Fore (coverB k c) (coverB k d) := by
  rcases Int.emod_two_eq (k.2 - k.1) with z | z
  · obtain ⟨m, hm⟩ : ∃ m : Nat, k.2 - k.1 = 2 * (m : Int) := ⟨((k.2 - k.1) / 2).toNat, by omega⟩
    obtain ⟨n1, n2⟩ := numB_odd hm
    rw [coverB_odd (j := c.toNat) hm (by omega) (by omega), coverB_odd (j := d.toNat) hm (by omega) (by omega)]
    exact one_fore (by omega) (by omega)
  · obtain ⟨m, hm⟩ : ∃ m : Nat, k.2 - k.1 + 1 = 2 * (m : Int) := ⟨((k.2 - k.1 + 1) / 2).toNat, by omega⟩
    have := (coverB_even (c := 0) hm).2.1
    omega
theorem coverL_fore : ∀ {bs : List Bk} (_ : ∀ k ∈ bs, k.1 ≤ k.2) {i j : Int}, 0 ≤ i → i < j → j < cntB bs → Fore (coverL bs i) (coverL bs j)
  | [], _, i, j, h0, h1, h2 => by
    have : cntB [] = 1 := rfl
    omega
  | k :: bs, h, i, j, h0, h1, h2 => by
    have hb : ∀ b ∈ bs, b.1 ≤ b.2 := fun b hb => h b (List.mem_cons_of_mem _ hb)
    have p := cntB_pos hb
    obtain ⟨c, r, e⟩ := ix_split (k := k) hb h0 (Int.lt_trans h1 h2)
    obtain ⟨c', r', e'⟩ := ix_split (k := k) hb (show 0 ≤ j by omega) h2
    have key : i / cntB bs < j / cntB bs ∨ (i / cntB bs = j / cntB bs ∧ i % cntB bs < j % cntB bs) := by
      rcases Int.lt_trichotomy (i / cntB bs) (j / cntB bs) with z | z | z
      · exact .inl z
      · refine .inr ⟨z, ?_⟩
        rw [z] at e
        omega
      · have h3 : cntB bs * (j / cntB bs + 1) ≤ cntB bs * (i / cntB bs) := Int.mul_le_mul_of_nonneg_left (by omega) (by omega)
        rw [Int.mul_add, Int.mul_one] at h3
        omega
    rw [e, e', coverL_split k bs hb c r, coverL_split k bs hb c' r']
    rcases key with z | ⟨z1, z2⟩
    · exact (coverB_fore (h k List.mem_cons_self) c.1 z c'.2).app
    · rw [z1]
      exact (coverL_fore hb r.1 z2 r'.2).pre _
end K31
set_option Elab.async false
set_option pp.maxSteps 1200
set_option linter.all false
set_option maxRecDepth 100000
set_option maxHeartbeats 4000000
/-! Each best cover has an index. -/
namespace K31
open PySem L2 My
def TokI (t : List Int) : Prop := (∃ b, t = [b]) ∨ ∃ b, t = [b, b + 1]
theorem tok_half : ∀ {T : List (List Int)}, (∀ t ∈ T, TokI t) → T.flatten.length ≤ 2 * T.length
  | [], _ => Nat.le_refl _
  | t :: T, h => by
    have ih := tok_half (T := T) fun x hx => h x (List.mem_cons_of_mem _ hx)
    rw [List.flatten_cons, List.length_append, List.length_cons]
    rcases h t List.mem_cons_self with ⟨b, rfl⟩ | ⟨b, rfl⟩
    · show 1 + _ ≤ _
      omega
    · show 2 + _ ≤ _
      omega
theorem rng_len : ∀ (n : Nat) (b : Int), (rngI b n).length = n
  | 0, _ => rfl
  | n + 1, b => by
    show (rngI (b + 1) n).length + 1 = n + 1
    rw [rng_len n]
theorem tok_even : ∀ (m : Nat) (b : Int) (T : List (List Int)), (∀ t ∈ T, TokI t) → T.flatten = rngI b (2 * m) → T.length = m → T = prs b m
  | 0, b, T, _, _, hl => List.eq_nil_of_length_eq_zero hl
  | m + 1, b, [], _, _, hl => by cases hl
  | m + 1, b, t :: T, h, e, hl => by
    have hl' : T.length = m := by simpa using hl
    have hT : ∀ x ∈ T, TokI x := fun x hx => h x (List.mem_cons_of_mem _ hx)
    have e : t ++ T.flatten = b :: (b + 1) :: rngI (b + 1 + 1) (2 * m) := e
    rcases h t List.mem_cons_self with ⟨x, rfl⟩ | ⟨x, rfl⟩
    · injection e with e1 e2
      have := tok_half hT
      have e2 : T.flatten = _ := e2
      rw [e2, List.length_cons, rng_len] at this
      omega
    · injection e with e1 e2
      injection e2 with e2 e3
      have e3 : T.flatten = rngI (b + 1 + 1) (2 * m) := e3
      rw [show b + 1 + 1 = b + 2 by omega] at e3
      rw [tok_even m (b + 2) T hT e3 (by simpa using hl), e1]
      rfl
theorem tok_odd : ∀ (m : Nat) (b : Int) (T : List (List Int)), (∀ t ∈ T, TokI t) → T.flatten = rngI b (2 * m + 1) → T.length = m + 1 → ∃ j, j ≤ m ∧ T = oneJ b m j
  | m, b, [], _, _, hl => by cases hl
  | m, b, t :: T, h, e, hl => by
    have hl' : T.length = m := by simpa using hl
    have hT : ∀ x ∈ T, TokI x := fun x hx => h x (List.mem_cons_of_mem _ hx)
    have e : t ++ T.flatten = b :: rngI (b + 1) (2 * m) := e
    rcases h t List.mem_cons_self with ⟨x, rfl⟩ | ⟨x, rfl⟩
    · injection e with e1 e2
      have e2 : T.flatten = rngI (b + 1) (2 * m) := e2
      refine ⟨0, Nat.zero_le _, ?_⟩
      rw [tok_even m (b + 1) T hT e2 (by simpa using hl), e1]
      unfold oneJ
      show _ = [b + 2 * ((0 : Nat) : Int)] :: prs (b + 2 * ((0 : Nat) : Int) + 1) (m - 0)
      rw [show b + 2 * ((0 : Nat) : Int) = b by omega, Nat.sub_zero]
    · injection e with e1 e2
      have e2 : (x + 1) :: T.flatten = rngI (b + 1) (2 * m) := e2
      cases m with
      | zero => cases e2
      | succ m =>
        have e2 : (x + 1) :: T.flatten = (b + 1) :: rngI (b + 1 + 1) (2 * m + 1) := e2
        injection e2 with e3 e4
        rw [show b + 1 + 1 = b + 2 by omega] at e4
        obtain ⟨j, hj, ej⟩ := tok_odd m (b + 2) T hT e4 (by simpa using hl)
        refine ⟨j + 1, by omega, ?_⟩
        rw [ej, e1]
        unfold oneJ
        show [b, b + 1] :: (prs (b + 2) j ++ [b + 2 + 2 * (j : Int)] :: prs (b + 2 + 2 * (j : Int) + 1) (m - j)) = [b, b + 1] :: (prs (b + 2) j ++ [b + 2 * ((j + 1 : Nat) : Int)] :: prs (b + 2 * ((j + 1 : Nat) : Int) + 1) (m + 1 - (j + 1)))
        rw [show b + 2 + 2 * (j : Int) = b + 2 * ((j + 1 : Nat) : Int) by omega, show m + 1 - (j + 1) = m - j by omega]
theorem tok_split : ∀ (T : List (List Int)) (s : Nat) (b : Int) (R : List Int), (∀ t ∈ T, TokI t) → T.flatten = rngI b s ++ R → R.head? ≠ some (b + (s : Int)) → ∃ T1 T2, T = T1 ++ T2 ∧ T1.flatten = rngI b s ∧ T2.flatten = R
  | T, 0, b, R, _, e, _ => ⟨[], T, rfl, rfl, e⟩
  | [], s + 1, b, R, _, e, _ => by cases e
  | t :: T, s + 1, b, R, h, e, g => by
    have hT : ∀ x ∈ T, TokI x := fun x hx => h x (List.mem_cons_of_mem _ hx)
    have e : t ++ T.flatten = b :: (rngI (b + 1) s ++ R) := e
    rcases h t List.mem_cons_self with ⟨x, rfl⟩ | ⟨x, rfl⟩
    · injection e with e1 e2
      obtain ⟨T1, T2, h1, h2, h3⟩ := tok_split T s (b + 1) R hT e2 (by rw [show b + 1 + (s : Int) = b + ((s + 1 : Nat) : Int) by omega]; exact g)
      refine ⟨[x] :: T1, T2, by rw [h1]; rfl, ?_, h3⟩
      show x :: T1.flatten = b :: rngI (b + 1) s
      rw [h2, e1]
    · injection e with e1 e2
      have e2 : (x + 1) :: T.flatten = rngI (b + 1) s ++ R := e2
      cases s with
      | zero =>
        have e2 : (x + 1) :: T.flatten = R := e2
        exfalso
        apply g
        rw [← e2, e1]
        rfl
      | succ s =>
        have e2 : (x + 1) :: T.flatten = (b + 1) :: (rngI (b + 1 + 1) s ++ R) := e2
        injection e2 with e3 e4
        obtain ⟨T1, T2, h1, h2, h3⟩ := tok_split T s (b + 1 + 1) R hT e4 (by rw [show b + 1 + 1 + (s : Int) = b + ((s + 1 + 1 : Nat) : Int) by omega]; exact g)
        refine ⟨[x, x + 1] :: T1, T2, by rw [h1]; rfl, ?_, h3⟩
        show x :: (x + 1) :: T1.flatten = b :: (b + 1) :: rngI (b + 1 + 1) s
        rw [h2, e1]
/-- blocks apart from one another -/
def Sep : List Bk → Prop
  | [] => True
  | k :: r => k.1 ≤ k.2 ∧ (∀ l, r.head? = some l → k.2 + 1 < l.1) ∧ Sep r
theorem Sep.le : ∀ {bs : List Bk}, Sep bs → ∀ k ∈ bs, k.1 ≤ k.2
  | [], _, _, h => by cases h
  | k :: r, h, x, hx => by
    rcases List.mem_cons.mp hx with z | z
    · rw [z]; exact h.1
    · exact h.2.2.le x z
theorem rngB_head {k : Bk} (h : k.1 ≤ k.2) : ∃ r, rngB k = k.1 :: r := by
  unfold rngB
  obtain ⟨n, hn⟩ : ∃ n, (k.2 - k.1 + 1).toNat = n + 1 := ⟨(k.2 - k.1).toNat, by omega⟩
  rw [hn]
  exact ⟨_, rfl⟩
theorem best_ix : ∀ {bs : List Bk}, Sep bs → ∀ {T : List (List Int)}, (∀ t ∈ T, TokI t) → T.flatten = bs.flatMap rngB → (bs.map costB).sum ≤ T.length ∧ ((T.length : Int) = (bs.map costB).sum → ∃ ix, 0 ≤ ix ∧ ix < cntB bs ∧ T = coverL bs ix)
  | [], _, T, h, e => by
    refine ⟨Int.natCast_nonneg _, fun hl => ⟨0, Int.le_refl _, by show (0 : Int) < 1; decide, ?_⟩⟩
    have hl : (T.length : Int) = 0 := hl
    exact List.eq_nil_of_length_eq_zero (by omega)
  | k :: bs, s, T, h, e => by
    obtain ⟨s1, s2, s3⟩ := s
    have e : T.flatten = rngB k ++ bs.flatMap rngB := e
    have g : (bs.flatMap rngB).head? ≠ some (k.1 + ((k.2 - k.1 + 1).toNat : Int)) := by
      cases bs with
      | nil => intro z; cases z
      | cons l r =>
        obtain ⟨t, ht⟩ := rngB_head (s3.1)
        have := s2 l rfl
        show (rngB l ++ r.flatMap rngB).head? ≠ _
        rw [ht]
        intro z
        injection z with z
        omega
    obtain ⟨T1, T2, h1, h2, h3⟩ := tok_split T _ k.1 _ h e g
    have t1 : ∀ t ∈ T1, TokI t := fun t ht => h t (by rw [h1]; exact List.mem_append_left _ ht)
    have t2 : ∀ t ∈ T2, TokI t := fun t ht => h t (by rw [h1]; exact List.mem_append_right _ ht)
    obtain ⟨l2, i2⟩ := best_ix s3 t2 h3
    have l1 := tok_half t1
    rw [h2, rng_len] at l1
    have tl : T.length = T1.length + T2.length := by rw [h1, List.length_append]
    have cs : ((k :: bs).map costB).sum = costB k + (bs.map costB).sum := by simp
    have ck : costB k ≤ T1.length := by
      unfold costB
      omega
    rw [cs]
    refine ⟨by omega, fun hl => ?_⟩
    have q1 : (T1.length : Int) = costB k := by omega
    obtain ⟨i, i0, i1, ei⟩ := i2 (by omega)
    have hc : ∃ c, 0 ≤ c ∧ c < numB k ∧ T1 = coverB k c := by
      rcases Int.emod_two_eq (k.2 - k.1) with z | z
      · obtain ⟨m, hm⟩ : ∃ m : Nat, k.2 - k.1 = 2 * (m : Int) := ⟨((k.2 - k.1) / 2).toNat, by omega⟩
        obtain ⟨n1, n2⟩ := numB_odd hm
        rw [show (k.2 - k.1 + 1).toNat = 2 * m + 1 by omega] at h2
        obtain ⟨j, hj, ej⟩ := tok_odd m k.1 T1 t1 h2 (by omega)
        exact ⟨(j : Int), by omega, by omega, by rw [ej, coverB_odd hm rfl hj]⟩
      · obtain ⟨m, hm⟩ : ∃ m : Nat, k.2 - k.1 + 1 = 2 * (m : Int) := ⟨((k.2 - k.1 + 1) / 2).toNat, by omega⟩
        obtain ⟨e1, e2, e3⟩ := coverB_even (c := 0) hm
        rw [show (k.2 - k.1 + 1).toNat = 2 * m by omega] at h2
        exact ⟨0, Int.le_refl _, by omega, by rw [e1, tok_even m k.1 T1 t1 h2 (by omega)]⟩
    obtain ⟨c, c0, c1, ec⟩ := hc
    refine ⟨i + cntB bs * c, ?_, ?_, ?_⟩
    · have := cntB_pos s3.le
      have := Int.mul_nonneg (show 0 ≤ cntB bs by omega) c0
      omega
    · rw [cntB_cons]
      have : cntB bs * (c + 1) ≤ cntB bs * numB k := Int.mul_le_mul_of_nonneg_left (by omega) (by have := cntB_pos s3.le; omega)
      rw [Int.mul_add, Int.mul_one, Int.mul_comm (cntB bs) (numB k)] at this
      omega
    · rw [coverL_split k bs s3.le ⟨c0, c1⟩ ⟨i0, i1⟩, ← ec, ← ei, h1]
/-! blocks of ascending borders -/
theorem blk_sep : ∀ {ps : List Int}, ps.Pairwise (· < ·) → Sep (blocksL ps) ∧ (blocksL ps).flatMap rngB = ps ∧ ∀ l, (blocksL ps).head? = some l → ∃ r, ps = l.1 :: r
  | [], _ => ⟨trivial, rfl, fun l h => by cases h⟩
  | p :: ps, pw => by
    obtain ⟨p1, p2⟩ := List.pairwise_cons.mp pw
    obtain ⟨i1, i2, i3⟩ := blk_sep p2
    rw [blocks_cons]
    have one : rngB (p, p) = [p] := by
      unfold rngB
      show rngI p (p - p + 1).toNat = _
      rw [show (p - p + 1).toNat = 1 by omega]
      rfl
    cases hb : blocksL ps with
    | nil =>
      rw [hb] at i2
      have i2 : [] = ps := i2
      refine ⟨⟨Int.le_refl _, (fun l h => by cases h), trivial⟩, ?_, fun l h => ?_⟩
      · show rngB (p, p) ++ [] = _
        rw [one, ← i2]
        rfl
      · have : l = (p, p) := (Option.some.inj h).symm
        rw [this]
        exact ⟨_, rfl⟩
    | cons k r =>
      rw [hb] at i1 i2 i3
      obtain ⟨t, ht⟩ := i3 k rfl
      have pk := p1 k.1 (by rw [ht]; exact List.mem_cons_self)
      obtain ⟨s1, s2, s3⟩ := i1
      have i2 : rngB k ++ r.flatMap rngB = ps := i2
      unfold addF
      by_cases c : k.1 = p + 1
      · simp only [c, if_true]
        refine ⟨⟨by show p ≤ k.2; omega, s2, s3⟩, ?_, fun l h => ?_⟩
        · show rngB (p, k.2) ++ r.flatMap rngB = p :: ps
          have : rngB (p, k.2) = p :: rngB k := by
            unfold rngB
            show rngI p (k.2 - p + 1).toNat = _
            obtain ⟨n, hn⟩ : ∃ n, (k.2 - p + 1).toNat = n + 1 := ⟨(k.2 - p).toNat, by omega⟩
            rw [hn]
            show p :: rngI (p + 1) n = _
            rw [show n = (k.2 - k.1 + 1).toNat by omega, c]
          rw [this, List.cons_append, i2]
        · have : l = (p, k.2) := (Option.some.inj h).symm
          rw [this]
          exact ⟨_, rfl⟩
      · simp only [c, if_false]
        refine ⟨⟨Int.le_refl _, fun l h => ?_, s1, s2, s3⟩, ?_, fun l h => ?_⟩
        · have : l = k := (Option.some.inj h).symm
          rw [this]
          show p + 1 < k.1
          omega
        · show rngB (p, p) ++ (rngB k ++ r.flatMap rngB) = _
          rw [one, i2]
          rfl
        · have : l = (p, p) := (Option.some.inj h).symm
          rw [this]
          exact ⟨_, rfl⟩
end K31
set_option Elab.async false
set_option pp.maxSteps 1200
set_option linter.all false
set_option maxRecDepth 100000
set_option maxHeartbeats 4000000
/-! Tokens: the borders, put together by the clicks that made them. -/
namespace K31
open PySem L2 My
abbrev Dk := List (Int × List Int)
def getT (d : Dk) (i : Int) : Option (List Int) := (d.find? fun p => decide (p.1 = i)).map (·.2)
def putT (d : Dk) (i : Int) (t : List Int) : Dk := if (d.any fun p => decide (p.1 = i)) = true then d.map (fun p => if p.1 = i then (p.1, t) else p) else d ++ [(i, t)]
def stepT (md : Int → Int) (d : Dk) (b : Int) : Dk := putT d (md b) ((getT d (md b)).getD [] ++ [b])
def tokD (md : Int → Int) (ps : List Int) : Dk := ps.foldl (stepT md) []
structure TInv (md : Int → Int) (d : Dk) (qs : List Int) : Prop where
  flat : (d.map (·.2)).flatten = qs
  own : ∀ p ∈ d, p.2 ≠ [] ∧ ∀ b ∈ p.2, md b = p.1
  nd : (d.map (·.1)).Nodup
theorem getT_none {d : Dk} {i : Int} (h : ∀ p ∈ d, p.1 ≠ i) : getT d i = none ∧ (d.any fun p => decide (p.1 = i)) = false := by
  constructor
  · unfold getT
    rw [List.find?_eq_none.mpr fun p hp => by simp [h p hp]]
    rfl
  · rw [List.any_eq_false]
    intro p hp
    simp [h p hp]
theorem flat_mem {d : Dk} {p : Int × List Int} {b : Int} (hp : p ∈ d) (hb : b ∈ p.2) : b ∈ (d.map (·.2)).flatten :=
  List.mem_flatten.mpr ⟨p.2, List.mem_map.mpr ⟨p, hp, rfl⟩, hb⟩
theorem TInv.next {md : Int → Int} {d : Dk} {qs : List Int} {b : Int} (h : TInv md d qs) (pw : (qs ++ [b]).Pairwise (· < ·)) (hm : ∀ c ∈ qs, md c = md b → b ≤ c + 1) : TInv md (stepT md d b) (qs ++ [b]) ∧ (stepT md d b).length ≤ d.length + 1 := by
  have lt : ∀ c ∈ qs, c < b := fun c hc => (List.pairwise_append.mp pw).2.2 c hc b (List.mem_singleton.mpr rfl)
  have pq := (List.pairwise_append.mp pw).1
  by_cases c : ∃ p ∈ d, p.1 = md b
  · obtain ⟨p, hp, e⟩ := c
    obtain ⟨p1, p2⟩ := h.own p hp
    -- the entry holds b - 1 alone and stands last
    obtain ⟨d1, d2, ed⟩ := List.append_of_mem hp
    have all1 : ∀ x ∈ p.2, x = b - 1 := fun x hx => by
      have m1 := flat_mem hp hx
      rw [h.flat] at m1
      have := hm x m1 (by rw [p2 x hx, e])
      have := lt x m1
      omega
    have d2e : d2 = [] := by
      cases d2 with
      | nil => rfl
      | cons q r =>
        exfalso
        obtain ⟨q1, _⟩ := h.own q (by rw [ed]; simp)
        obtain ⟨x, px⟩ := List.exists_mem_of_ne_nil _ p1
        obtain ⟨y, qy⟩ := List.exists_mem_of_ne_nil _ q1
        have ex := all1 x px
        have hy : y ∈ qs := by
          rw [← h.flat]
          exact flat_mem (p := q) (by rw [ed]; simp) qy
        have ly := lt y hy
        have hf := h.flat
        rw [ed, List.map_append, List.map_cons, List.map_cons, List.flatten_append, List.flatten_cons, List.flatten_cons] at hf
        rw [← hf] at pq
        have r1 := (List.pairwise_append.mp (List.pairwise_append.mp pq).2.1).2.2 x px y (List.mem_append_left _ qy)
        omega
    subst d2e
    have pe : p.2 = [b - 1] := by
      have pp : p.2.Pairwise (· < ·) := by
        have hf := h.flat
        rw [ed, List.map_append, List.map_cons, List.map_nil, List.flatten_append, List.flatten_cons, List.flatten_nil, List.append_nil] at hf
        rw [← hf] at pq
        exact (List.pairwise_append.mp pq).2.1
      match hq : p.2, p1, all1, pp with
      | [], z, _, _ => exact absurd rfl z
      | [x], _, a, _ => rw [a x (List.mem_singleton.mpr rfl)]
      | x :: y :: r, _, a, pp =>
        have := a x List.mem_cons_self
        have := a y (List.mem_cons_of_mem _ List.mem_cons_self)
        have := List.rel_of_pairwise_cons pp (List.mem_cons_self (a := y))
        omega
    have ne : ∀ q ∈ d1, q.1 ≠ md b := fun q hq z => by
      have := h.nd
      rw [ed, List.map_append, List.map_cons, List.map_nil] at this
      have := (List.nodup_append.mp this).2.2 q.1 (List.mem_map.mpr ⟨q, hq, rfl⟩) p.1 (List.mem_singleton.mpr rfl)
      exact this (by rw [z, e])
    have eg : getT d (md b) = some p.2 := by
      unfold getT
      rw [ed, List.find?_append, List.find?_eq_none.mpr fun q hq => by simp [ne q hq]]
      simp [e]
    have ea : (d.any fun p => decide (p.1 = md b)) = true := List.any_eq_true.mpr ⟨p, hp, by simp [e]⟩
    have es : stepT md d b = d1 ++ [(p.1, [b - 1, b])] := by
      unfold stepT putT
      rw [eg, if_pos ea, ed, List.map_append]
      have m1 : d1.map (fun q => if q.1 = md b then (q.1, (some p.2).getD [] ++ [b]) else q) = d1 := by
        conv => rhs; rw [← List.map_id d1]
        exact List.map_congr_left fun q hq => by rw [if_neg (ne q hq)]; rfl
      rw [m1, List.map_cons, List.map_nil, if_pos e, pe]
      rfl
    rw [es]
    have hf := h.flat
    rw [ed, List.map_append, List.map_cons, List.map_nil, List.flatten_append, List.flatten_cons, List.flatten_nil, List.append_nil, pe] at hf
    refine ⟨⟨?_, fun q hq => ?_, ?_⟩, ?_⟩
    · rw [List.map_append, List.map_cons, List.map_nil, List.flatten_append, List.flatten_cons, List.flatten_nil, List.append_nil, ← hf, List.append_assoc]
      rfl
    · rcases List.mem_append.mp hq with z | z
      · exact h.own q (by rw [ed]; exact List.mem_append_left _ z)
      · rw [List.mem_singleton.mp z]
        refine ⟨by simp, fun x hx => ?_⟩
        rcases List.mem_cons.mp hx with y | y
        · rw [y]
          exact p2 _ (by rw [pe]; exact List.mem_singleton.mpr rfl)
        · rw [List.mem_singleton.mp y]
          exact e.symm
    · have := h.nd
      rw [ed, List.map_append, List.map_cons, List.map_nil] at this
      rw [List.map_append, List.map_cons, List.map_nil]
      exact this
    · rw [ed, List.length_append, List.length_append]
      show _ + 1 ≤ _ + 1 + 1
      omega
  · have ne : ∀ p ∈ d, p.1 ≠ md b := fun p hp z => c ⟨p, hp, z⟩
    obtain ⟨g1, g2⟩ := getT_none ne
    have es : stepT md d b = d ++ [(md b, [b])] := by
      unfold stepT putT
      rw [g1, g2, if_neg (by simp)]
      rfl
    rw [es]
    refine ⟨⟨by rw [List.map_append, List.flatten_append, h.flat]; simp, fun q hq => ?_, ?_⟩, by rw [List.length_append]; exact Nat.le_refl _⟩
    · rcases List.mem_append.mp hq with z | z
      · exact h.own q z
      · rw [List.mem_singleton.mp z]
        refine ⟨by simp, fun x hx => ?_⟩
        rw [List.mem_singleton.mp hx]
    · rw [List.map_append, List.map_cons, List.map_nil]
      refine List.nodup_append.mpr ⟨h.nd, by simp, fun x hx y hy => ?_⟩
      obtain ⟨p, hp, rfl⟩ := List.mem_map.mp hx
      rw [List.mem_singleton.mp hy]
      exact ne p hp
theorem tok_inv {md : Int → Int} : ∀ (ps : List Int), ps.Pairwise (· < ·) → (∀ b ∈ ps, ∀ c ∈ ps, md c = md b → c ≤ b → b ≤ c + 1) → TInv md (tokD md ps) ps ∧ (tokD md ps).length ≤ ps.length := by
  intro ps
  have go : ∀ (rest qs : List Int) (d : Dk), TInv md d qs → d.length ≤ qs.length → (qs ++ rest).Pairwise (· < ·) → (∀ b ∈ qs ++ rest, ∀ c ∈ qs ++ rest, md c = md b → c ≤ b → b ≤ c + 1) → TInv md (rest.foldl (stepT md) d) (qs ++ rest) ∧ (rest.foldl (stepT md) d).length ≤ (qs ++ rest).length := by
    intro rest
    induction rest with
    | nil =>
      intro qs d h hl _ _
      rw [List.append_nil]
      exact ⟨h, hl⟩
    | cons b rest ih =>
      intro qs d h hl pw hm
      have e : qs ++ b :: rest = (qs ++ [b]) ++ rest := by simp
      rw [e] at pw hm ⊢
      obtain ⟨n1, n2⟩ := h.next (b := b) (List.pairwise_append.mp pw).1 fun c hc z => hm b (by simp) c (by simp [hc]) z (by
        have := (List.pairwise_append.mp (List.pairwise_append.mp pw).1).2.2 c hc b (List.mem_singleton.mpr rfl)
        omega)
      exact ih (qs ++ [b]) (stepT md d b) n1 (by rw [List.length_append]; show _ ≤ qs.length + 1; omega) pw hm
  intro pw hm
  have := go ps [] [] ⟨rfl, (fun p h => by cases h), List.nodup_nil⟩ (Nat.le_refl _) pw hm
  exact this
/-- each of them a token -/
theorem tok_each {md : Int → Int} {ps : List Int} (pw : ps.Pairwise (· < ·)) (hm : ∀ b ∈ ps, ∀ c ∈ ps, md c = md b → c ≤ b → b ≤ c + 1) : ∀ t ∈ (tokD md ps).map (·.2), TokI t := by
  obtain ⟨h, _⟩ := tok_inv ps pw hm
  intro t ht
  obtain ⟨p, hp, rfl⟩ := List.mem_map.mp ht
  obtain ⟨p1, p2⟩ := h.own p hp
  have sub : p.2.Sublist ps := by
    rw [← h.flat]
    exact List.sublist_flatten_of_mem (List.mem_map.mpr ⟨p, hp, rfl⟩)
  have pp := pw.sublist sub
  have m : ∀ x ∈ p.2, x ∈ ps := fun x hx => sub.subset hx
  match hq : p.2, p1, pp, p2, m with
  | [], z, _, _, _ => exact absurd rfl z
  | [x], _, _, _, _ => exact .inl ⟨x, rfl⟩
  | [x, y], _, pp, p2, m =>
    have lt := List.rel_of_pairwise_cons pp (List.mem_cons_self (a := y))
    have := hm y (m y (by simp)) x (m x (by simp)) (by rw [p2 x (by simp), p2 y (by simp)]) (by omega)
    refine .inr ⟨x, ?_⟩
    rw [show y = x + 1 by omega]
  | x :: y :: z :: r, _, pp, p2, m =>
    exfalso
    have l1 := List.rel_of_pairwise_cons pp (List.mem_cons_self (a := y))
    have l2 := List.rel_of_pairwise_cons (List.Pairwise.of_cons pp) (List.mem_cons_self (a := z))
    have := hm z (m z (by simp)) x (m x (by simp)) (by rw [p2 x (by simp), p2 z (by simp)]) (by omega)
    omega
/-- a list as long as its cost: all clicks are used, and the tokens are a best cover -/
theorem tok_best {md : Int → Int} {ps : List Int} {k : Nat} (pw : ps.Pairwise (· < ·)) (hm : ∀ b ∈ ps, ∀ c ∈ ps, md c = md b → c ≤ b → b ≤ c + 1) (hr : ∀ b ∈ ps, 0 ≤ md b ∧ md b < (k : Int)) (hc : ((blocksL ps).map costB).sum = (k : Int)) :
    (∀ i : Int, 0 ≤ i → i < (k : Int) → i ∈ ps.map md) ∧ ∃ ix, 0 ≤ ix ∧ ix < cntB (blocksL ps) ∧ (tokD md ps).map (·.2) = coverL (blocksL ps) ix := by
  obtain ⟨h, hl⟩ := tok_inv ps pw hm
  obtain ⟨sep, fl, _⟩ := blk_sep pw
  have te := tok_each pw hm
  obtain ⟨b1, b2⟩ := best_ix sep te (by rw [h.flat, fl])
  have kin : ∀ x ∈ (tokD md ps).map (·.1), x ∈ ps.map md := fun x hx => by
    obtain ⟨p, hp, rfl⟩ := List.mem_map.mp hx
    obtain ⟨p1, p2⟩ := h.own p hp
    obtain ⟨y, hy⟩ := List.exists_mem_of_ne_nil _ p1
    have := flat_mem hp hy
    rw [h.flat] at this
    exact List.mem_map.mpr ⟨y, this, p2 y hy⟩
  have rng : ∀ x ∈ (tokD md ps).map (·.1), x ∈ (List.range k).map fun i => ((i : Nat) : Int) := fun x hx => by
    obtain ⟨b, hb, rfl⟩ := List.mem_map.mp (kin x hx)
    obtain ⟨r0, r1⟩ := hr b hb
    exact List.mem_map.mpr ⟨(md b).toNat, List.mem_range.mpr (by omega), by omega⟩
  have le := nodup_len h.nd rng
  rw [List.length_map, List.length_map, List.length_range] at le
  rw [List.length_map, hc] at b1
  have eq : (tokD md ps).length = k := by omega
  refine ⟨fun i i0 i1 => ?_, b2 (by rw [List.length_map, hc, eq])⟩
  by_cases z : i ∈ (tokD md ps).map (·.1)
  · exact kin i z
  · exfalso
    have sub : ∀ x ∈ (tokD md ps).map (·.1), x ∈ ((List.range k).map fun i => ((i : Nat) : Int)).erase i := fun x hx => by
      refine (List.mem_erase_of_ne ?_).mpr (rng x hx)
      intro e
      rw [e] at hx
      exact z hx
    have l2 := nodup_len h.nd sub
    have mi : i ∈ (List.range k).map fun i => ((i : Nat) : Int) := List.mem_map.mpr ⟨i.toNat, List.mem_range.mpr (by omega), by omega⟩
    rw [List.length_erase_of_mem mi, List.length_map, List.length_map, List.length_range, eq] at l2
    omega
/-- they stand ascending -/
theorem tok_asc : ∀ {T : List (List Int)}, (∀ t ∈ T, t ≠ []) → T.flatten.Pairwise (· < ·) → T.Pairwise (· < ·)
  | [], _, _ => List.Pairwise.nil
  | t :: T, h, pw => by
    rw [List.flatten_cons] at pw
    obtain ⟨p1, p2, p3⟩ := List.pairwise_append.mp pw
    refine List.pairwise_cons.mpr ⟨fun u hu => ?_, tok_asc (fun u hu => h u (List.mem_cons_of_mem _ hu)) p2⟩
    have ht := h t List.mem_cons_self
    have hu' := h u (List.mem_cons_of_mem _ hu)
    cases t with
    | nil => exact absurd rfl ht
    | cons x t =>
      cases u with
      | nil => exact absurd rfl hu'
      | cons y u =>
        have := p3 x List.mem_cons_self y (List.mem_flatten.mpr ⟨_, hu, List.mem_cons_self⟩)
        rw [List.cons_lt_cons_iff]
        exact .inl this
theorem numB_pow {k : Bk} (h : k.1 ≤ k.2) : numB k ≤ 2 ^ (sizeB k).toNat := by
  have h1 := numB_le h
  have : ∀ n : Nat, (n : Int) + 1 ≤ 2 ^ n := by
    intro n
    induction n with
    | zero => decide
    | succ n ih =>
      rw [Int.pow_succ]
      omega
  have h2 := this (sizeB k).toNat
  have e : sizeB k = k.2 - k.1 + 1 := rfl
  have e2 : ((sizeB k).toNat : Int) = k.2 - k.1 + 1 := by omega
  omega
theorem cntB_pow : ∀ {bs : List Bk}, (∀ k ∈ bs, k.1 ≤ k.2) → cntB bs ≤ 2 ^ ((bs.map sizeB).sum).toNat ∧ 0 ≤ (bs.map sizeB).sum
  | [], _ => ⟨by decide, Int.le_refl _⟩
  | k :: bs, h => by
    obtain ⟨i1, i2⟩ := cntB_pow fun q hq => h q (List.mem_cons_of_mem _ hq)
    have hk := h k List.mem_cons_self
    have n1 := numB_pow hk
    have e : sizeB k = k.2 - k.1 + 1 := rfl
    rw [cntB_cons, List.map_cons, List.sum_cons]
    refine ⟨?_, by omega⟩
    rw [Int.toNat_add (by omega) i2, Int.pow_add]
    have p0 : 0 ≤ cntB bs := by
      have := cntB_pos fun q hq => h q (List.mem_cons_of_mem _ hq)
      omega
    have q0 : (0 : Int) ≤ 2 ^ (sizeB k).toNat := Int.le_trans (by have := numB_pos hk; omega) n1
    exact Int.mul_le_mul n1 i1 p0 q0
theorem count_bd (ps : List Int) (h : ps.length ≤ 100) : cntB (blocksL ps) ≤ 2 ^ 100 := by
  have := (cntB_pow (bs := blocksL ps) (blocks_le ps)).1
  rw [blocks_size] at this
  refine Int.le_trans this ?_
  have e : ((ps.length : Int)).toNat = ps.length := by omega
  rw [e]
  exact_mod_cast Nat.pow_le_pow_right (n := 2) (by decide) h
end K31
set_option Elab.async false
set_option pp.maxSteps 1200
set_option linter.all false
set_option maxRecDepth 100000
set_option maxHeartbeats 4000000
/-! The law in plain words: effects, makers, beginnings, the order of covers. -/
namespace K31
open PySem L2 My
open PySem.W (dataLt alike dataLe)
/-! ### the order of covers -/
abbrev eTok : List Int → PyData := eT PyData.int
abbrev eCov : List (List Int) → PyData := eL eTok
theorem goodTok : Good eTok 1 := goodT goodI
theorem goodCov : Good eCov 2 := goodL goodTok
theorem alike_tok (a b : List Int) : alike (eTok a) (eTok b) = true := by
  show alike (.tuple (a.map .int)) (.tuple (b.map .int)) = true
  rw [alike]
  exact PySem.W.alike_ints a b
theorem alike_toks : ∀ X Y : List (List Int), PySem.W.alikeAll (X.map eTok) (Y.map eTok) = true
  | [], _ => by simp [PySem.W.alikeAll]
  | _ :: _, [] => by simp [PySem.W.alikeAll]
  | x :: X, y :: Y => by
    show PySem.W.alikeAll (eTok x :: X.map eTok) (eTok y :: Y.map eTok) = true
    rw [PySem.W.alikeAll, alike_toks X Y, alike_tok]
    rfl
theorem alike_cov (X Y : List (List Int)) : alike (eCov X) (eCov Y) = true := by
  show alike (.list (X.map eTok)) (.list (Y.map eTok)) = true
  rw [alike]
  exact alike_toks X Y
theorem lt_tok (a b : List Int) : dataLt (eTok a) (eTok b) = decide (a < b) := by
  show dataLt (.tuple (a.map .int)) (.tuple (b.map .int)) = _
  rw [PySem.W.dataLt_tuple]
  exact PySem.W.dataLt_ints a b
theorem lt_toks : ∀ X Y : List (List Int), PySem.W.rowLt (X.map eTok) (Y.map eTok) = decide (X < Y)
  | [], [] => by
    have e : PySem.W.rowLt [] [] = false := PyProof.Rows.lex_irrefl _
    simp [e]
  | [], y :: Y => by
    have e : PySem.W.rowLt [] (eTok y :: Y.map eTok) = true := by
      unfold PySem.W.rowLt
      rw [PySem.W.toks_all_cons]
      simp only [PySem.W.keyToksAll]
      rw [PyProof.Rows.lex_diff (O := PyProof.Rows.itemOrd) (by simp)]
      rfl
    simpa using e
  | x :: X, [] => by
    have e : PySem.W.rowLt (eTok x :: X.map eTok) [] = false := by
      unfold PySem.W.rowLt
      rw [PySem.W.toks_all_cons]
      simp only [PySem.W.keyToksAll]
      rw [PyProof.Rows.lex_diff (O := PyProof.Rows.itemOrd) (by simp)]
      rfl
    simpa using e
  | x :: X, y :: Y => by
    have e : PySem.W.rowLt (eTok x :: X.map eTok) (eTok y :: Y.map eTok) = if x = y then PySem.W.rowLt (X.map eTok) (Y.map eTok) else decide (x < y) := by
      unfold PySem.W.rowLt
      rw [PySem.W.dataLt_cons (alike_tok x y), lt_tok, goodTok.eqv]
      simp only [decide_eq_true_eq]
    show PySem.W.rowLt (eTok x :: X.map eTok) (eTok y :: Y.map eTok) = _
    rw [e]
    by_cases h : x = y
    · rw [if_pos h, lt_toks X Y]
      simp [h, List.cons_lt_cons_iff]
    · rw [if_neg h]
      simp [h, List.cons_lt_cons_iff]
theorem lt_cov (X Y : List (List Int)) : dataLt (eCov X) (eCov Y) = decide (X < Y) := by
  show dataLt (.list (X.map eTok)) (.list (Y.map eTok)) = _
  rw [PySem.W.dataLt_list]
  exact lt_toks X Y
/-- covers by their indexes -/
theorem lt_ix {bs : List Bk} (hb : ∀ k ∈ bs, k.1 ≤ k.2) {i j : Int} (i0 : 0 ≤ i) (i1 : i < cntB bs) (j0 : 0 ≤ j) (j1 : j < cntB bs) : (coverL bs i < coverL bs j) ↔ i < j := by
  constructor
  · intro h
    by_cases z : i < j
    · exact z
    · exfalso
      by_cases e : i = j
      · rw [e] at h
        exact List.lt_irrefl _ h
      · have := (coverL_fore hb j0 (by omega) i1).lt
        exact List.lt_asymm h this
  · intro h
    exact (coverL_fore hb i0 h j1).lt
/-- what stands ascending is sorted -/
theorem zs_asc {xs : List V} {T : List (List Int)} (hl : xs.length = T.length) (pw : T.Pairwise (· < ·)) : zsort xs (T.map eTok) = xs := by
  have hl' : xs.length = (T.map eTok).length := by rw [List.length_map, hl]
  have es : (xs.zip (T.map eTok)).map (·.2) = T.map eTok := by
    rw [← List.zip_unzip (xs.zip (T.map eTok))]
    simp [List.map_snd_zip, hl]
  have ef : (xs.zip (T.map eTok)).map (·.1) = xs := by
    rw [← List.zip_unzip (xs.zip (T.map eTok))]
    simp [List.map_fst_zip, hl]
  have p1 : (T.map eTok).Pairwise fun d e => (!dataLt e d) = true := by
    rw [List.pairwise_map]
    refine pw.imp fun {a b} h => ?_
    rw [lt_tok, Bool.not_eq_true', decide_eq_false_iff_not]
    exact fun z => List.lt_asymm h z
  rw [← es, List.pairwise_map] at p1
  unfold zsort
  rw [show (xs.zip (T.map eTok)).mergeSort (dataLe false fun x : V × PyData => x.2) = xs.zip (T.map eTok) from List.mergeSort_of_pairwise (p1.imp fun {a b} h => h), ef]
/-! ### effects -/
theorem eff_done {ns : List Int} : ∀ (cs : List Cl) (g : Int → Bf) (f : Int → Bool) (an : Option Int), (∀ r, (g r).2 = f r) → (∀ r, ((cs.foldl (stepE ns) (g, an)).1 r).2 = (cs.foldl (step ns) (f, an)).1 r) ∧ (cs.foldl (stepE ns) (g, an)).2 = (cs.foldl (step ns) (f, an)).2
  | [], g, f, an, h => ⟨h, rfl⟩
  | c :: cs, g, f, an, h => by
    obtain ⟨word, pos⟩ := c
    rw [List.foldl_cons, List.foldl_cons]
    cases hr : rng ns word an with
    | some n =>
      rw [step_rng hr]
      have es : stepE ns (g, an) (word, pos) = (fun r => if r ∈ span ns (ns.idxOf n) pos.toNat then g n else g r, an) := by
        unfold stepE
        simp only [hr]
      rw [es]
      exact eff_done cs _ _ _ fun r => by
        by_cases z : r ∈ span ns (ns.idxOf n) pos.toNat
        · simp only [if_pos z, h]
        · simp only [if_neg z, h]
    | none =>
      rw [step_cl hr]
      have es : stepE ns (g, an) (word, pos) = (fun r => if r = rowAt ns pos then ((g r).1, !(g r).2) else g r, some (rowAt ns pos)) := by
        unfold stepE
        simp only [hr]
      rw [es]
      exact eff_done cs _ _ _ fun r => by
        by_cases z : r = rowAt ns pos
        · simp only [if_pos z, h]
        · simp only [if_neg z, h]
theorem eff_marks (ns : List Int) (cs : List Cl) (r : Int) : ((effE ns none cs).1 r).2 = (done ns [] none cs).1 r :=
  (eff_done cs (fun r => (r, false)) (fun r => decide (r ∈ ([] : List Int))) none fun r => by simp).1 r
def madeL (R : Nat) (g : Int → Bf) (ms : List Int) : List Int := (upN R).filter fun r => !decide (decide ((g r).1 ∈ ms) = (g r).2)
theorem upN_asc (n : Nat) : (upN n).Pairwise (· < ·) := by
  unfold upN
  rw [List.pairwise_map]
  exact List.pairwise_lt_range.imp fun {a b} h => by omega
theorem upN_in {n : Nat} {r : Int} (h0 : 0 ≤ r) (h1 : r < n) : r ∈ upN n := by
  unfold upN
  exact List.mem_map.mpr ⟨r.toNat, List.mem_range.mpr (by omega), by omega⟩
/-- an effect makes of no marks those that the clicks make -/
theorem made_is {R : Nat} {ns ms : List Int} {cs : List Cl} (pm : ms.Pairwise (· < ·)) (hm : ∀ r, r ∈ ms ↔ (done ns [] none cs).1 r = true) (hr : ∀ r ∈ ms, 0 ≤ r ∧ r < (R : Nat)) : madeL R (effE ns none cs).1 [] = ms := by
  refine asc_unique ((upN_asc R).filter _) pm fun r => ?_
  unfold madeL
  rw [List.mem_filter, eff_marks, hm]
  have e0 : decide (((effE ns none cs).1 r).1 ∈ ([] : List Int)) = false := by simp
  rw [e0]
  constructor
  · rintro ⟨_, h⟩
    cases z : (done ns [] none cs).1 r with
    | true => rfl
    | false =>
      rw [z] at h
      simp at h
  · intro h
    have := hr r ((hm r).mpr h)
    exact ⟨upN_in this.1 this.2, by rw [h]; rfl⟩
/-! ### along the clicks -/
def scA (n : Nat) (mv : List Mv) : Sc := mv.foldl stepC (List.replicate n false, none)
def bdA (n : Nat) (mv : List Mv) : List Int := bordersC (scA n mv).1
def mdA (n : Nat) (mv : List Mv) : Nat → Int → Int
  | 0, _ => 0
  | i + 1, b => if b ∈ bdA n (mv.take (i + 1)) ∧ b ∉ bdA n (mv.take i) then (i : Nat) else mdA n mv i b
theorem vs0 (n : Nat) : VS n (List.replicate n false, none) := ⟨by simp, fun p h => nomatch h⟩
theorem vsA {n : Nat} : ∀ (mv : List Mv) (s : Sc), VS n s → (∀ m ∈ mv, m.2 < n) → VS n (mv.foldl stepC s)
  | [], _, h, _ => h
  | m :: mv, s, h, ok => vsA mv _ (vs_step h (ok m List.mem_cons_self)) fun x hx => ok x (List.mem_cons_of_mem _ hx)
theorem scA_snoc {n : Nat} {mv : List Mv} {i : Nat} {m : Mv} (h : mv[i]? = some m) : scA n (mv.take (i + 1)) = stepC (scA n (mv.take i)) m := foldl_take h
theorem md_inv {n : Nat} {mv : List Mv} (ok : ∀ m ∈ mv, m.2 < n) : ∀ i, i ≤ mv.length → ∀ b ∈ bdA n (mv.take i), 0 ≤ mdA n mv i b ∧ mdA n mv i b < (i : Nat) ∧ ∃ m, mv[(mdA n mv i b).toNat]? = some m ∧ (b = ((m.2 : Nat) : Int) ∨ b = ((m.2 : Nat) : Int) + 1)
  | 0, _, b, hb => by
    exfalso
    have hb : b ∈ bordersC (List.replicate n false) := hb
    obtain ⟨j, rfl⟩ := mem_bC_nat hb
    have h := mem_bC.mp hb
    have g0 : ∀ q, gF (List.replicate n false) q = false := fun q => by
      unfold gF
      split
      · rfl
      · rw [List.getD_eq_getElem?_getD, List.getElem?_replicate]
        split <;> rfl
    rw [g0, g0] at h
    exact h rfl
  | i + 1, hi, b, hb => by
    have hm : mv[i]? = some (mv[i]'(by omega)) := List.getElem?_eq_getElem (by omega)
    by_cases z : b ∈ bdA n (mv.take i)
    · have e : mdA n mv (i + 1) b = mdA n mv i b := by
        show (if _ then _ else _) = _
        rw [if_neg (fun y => y.2 z)]
      rw [e]
      obtain ⟨h1, h2, h3⟩ := md_inv ok i (by omega) b z
      exact ⟨h1, by omega, h3⟩
    · have e : mdA n mv (i + 1) b = ((i : Nat) : Int) := by
        show (if _ then _ else _) = _
        rw [if_pos ⟨hb, z⟩]
      rw [e]
      refine ⟨by omega, by omega, mv[i]'(by omega), by rw [show (((i : Nat) : Int)).toNat = i by omega]; exact hm, ?_⟩
      obtain ⟨j, rfl⟩ := mem_bC_nat hb
      unfold bdA at hb z
      rw [scA_snoc hm] at hb
      have v : VS n (scA n (mv.take i)) := vsA (mv.take i) _ (vs0 n) fun m hm => ok m (List.mem_of_mem_take hm)
      have hb' : inC (stepC ((scA n (mv.take i)).1, (scA n (mv.take i)).2) (mv[i]'(by omega))).1 j = true := decide_eq_true hb
      rcases step_new (fun p hp => by rw [v.len]; exact v.anc p hp) (by rw [v.len]; exact ok _ (List.getElem_mem _)) hb' with y | y | y
      · exact absurd (of_decide_eq_true y) z
      · exact .inl (by omega)
      · exact .inr (by omega)
theorem md_all {n : Nat} {mv : List Mv} (ok : ∀ m ∈ mv, m.2 < n) : (∀ b ∈ bdA n mv, ∀ c ∈ bdA n mv, mdA n mv mv.length c = mdA n mv mv.length b → c ≤ b → b ≤ c + 1) ∧ ∀ b ∈ bdA n mv, 0 ≤ mdA n mv mv.length b ∧ mdA n mv mv.length b < (mv.length : Nat) := by
  have h := md_inv ok mv.length (Nat.le_refl _)
  rw [List.take_length] at h
  refine ⟨fun b hb c hc e cb => ?_, fun b hb => ⟨(h b hb).1, (h b hb).2.1⟩⟩
  obtain ⟨_, _, m, hm, h1⟩ := h b hb
  obtain ⟨_, _, m', hm', h2⟩ := h c hc
  rw [e] at hm'
  rw [hm] at hm'
  cases hm'
  omega
theorem flg_done {ns : List Int} (nd : ns.Nodup) {mv : List Mv} (ok : ∀ m ∈ mv, m.2 < ns.length) {ms : List Int} (hm : ∀ r, r ∈ ms ↔ (done ns [] none (mv.map clM)).1 r = true) : flg ns ms = (scA ns.length mv).1 := by
  obtain ⟨h1, _, _⟩ := done_gen nd mv (fun r => decide (r ∈ ([] : List Int))) none ok
  have e0 : fls ns (fun r => decide (r ∈ ([] : List Int))) = List.replicate ns.length false := by
    refine List.ext_getElem (by simp) fun i a b => ?_
    simp
  rw [e0] at h1
  have : flg ns ms = fls ns ((mv.map clM).foldl (step ns) (fun r => decide (r ∈ ([] : List Int)), none)).1 := by
    refine List.map_congr_left fun r _ => ?_
    rw [Bool.eq_iff_iff, decide_eq_true_iff]
    exact hm r
  rw [this]
  exact h1
/-- a list of clicks as long as its marks cost: so is each beginning -/
theorem cost_take {n : Nat} {mv : List Mv} (ok : ∀ m ∈ mv, m.2 < n) (h : costN (scA n mv).1 = mv.length) : ∀ i, i ≤ mv.length → costN (scA n (mv.take i)).1 = i := by
  have mem : ∀ m : Mv, m.2 < n → m ∈ movesC n := fun m hm => by
    obtain ⟨b, p⟩ := m
    unfold movesC
    rw [List.mem_append, List.mem_map, List.mem_map]
    cases b with
    | false => exact .inl ⟨p, List.mem_range.mpr hm, rfl⟩
    | true => exact .inr ⟨p, List.mem_range.mpr hm, rfl⟩
  intro i hi
  have v := vsA (mv.take i) _ (vs0 n) fun m hm => ok m (List.mem_of_mem_take hm)
  have up := way_cost (mv.take i) _ (vs0 n) fun m hm => mem m (ok m (List.mem_of_mem_take hm))
  have c0 : costN (List.replicate n false) = 0 := cost_empty fun q => by
    rw [List.getD_eq_getElem?_getD, List.getElem?_replicate]
    split <;> rfl
  have up2 := way_cost (mv.drop i) _ v fun m hm => mem m (ok m (List.mem_of_mem_drop hm))
  have e : (mv.drop i).foldl stepC ((mv.take i).foldl stepC (List.replicate n false, none)) = scA n mv := by
    rw [← List.foldl_append, List.take_append_drop]
    rfl
  rw [e, h, List.length_drop] at up2
  rw [List.length_take, Nat.min_eq_left hi] at up
  have up : costN (scA n (mv.take i)).1 ≤ costN (List.replicate n false) + i := up
  have up2 : mv.length ≤ costN (scA n (mv.take i)).1 + (mv.length - i) := up2
  omega
/-- the whole: all clicks are used, and the tokens are the cover of some index -/
theorem best_of {ns ms : List Int} (nd : ns.Nodup) {mv : List Mv} (ok : ∀ m ∈ mv, m.2 < ns.length) (hm : ∀ r, r ∈ ms ↔ (done ns [] none (mv.map clM)).1 r = true) (h : costN (scA ns.length mv).1 = mv.length) :
    bordersL ns ms = bdA ns.length mv ∧ costL ns ms = (mv.length : Nat) ∧ (∀ i : Nat, i < mv.length → ((i : Nat) : Int) ∈ (bdA ns.length mv).map (mdA ns.length mv mv.length)) ∧ ∃ ix, 0 ≤ ix ∧ ix < cntB (blocksL (bordersL ns ms)) ∧ (tokD (mdA ns.length mv mv.length) (bdA ns.length mv)).map (·.2) = coverL (blocksL (bordersL ns ms)) ix := by
  have fl := flg_done nd ok hm
  have eb : bordersL ns ms = bdA ns.length mv := by
    rw [borders_C, fl]
    rfl
  have ec : costL ns ms = (mv.length : Nat) := by rw [costL_N, fl, h]
  obtain ⟨m1, m2⟩ := md_all ok
  have pw : (bdA ns.length mv).Pairwise (· < ·) := eb ▸ borders_asc ns ms
  obtain ⟨t1, t2⟩ := tok_best pw m1 m2 (by rw [← eb]; exact ec)
  rw [← eb] at t2
  refine ⟨eb, ec, fun i hi => t1 _ (by omega) (by omega), ?_⟩
  rw [eb] at t2 ⊢
  exact t2
/-- a range onto the anchor, or two clicks on one row, change nothing -/
theorem step_self {ns : List Int} (nd : ns.Nodup) {f : Int → Bool} {n : Int} (hn : n ∈ ns) : (step ns (f, some n) ("range", (ns.idxOf n : Nat))).1 = f := by
  have hr : rng ns "range" (some n) = some n := by
    unfold rng
    exact if_pos ⟨rfl, hn⟩
  rw [step_rng hr]
  funext r
  have hi : ns.idxOf n < ns.length := List.idxOf_lt_length_of_mem hn
  by_cases z : r ∈ span ns (ns.idxOf n) (((ns.idxOf n : Nat) : Int)).toNat
  · have z' := z
    rw [show (((ns.idxOf n : Nat) : Int)).toNat = ns.idxOf n by omega] at z'
    obtain ⟨i, h1, h2, h3⟩ := span_mem.mp z'
    have ei : i = ns.idxOf n := by omega
    rw [ei] at h3
    have : ns[ns.idxOf n]? = some n := by
      rw [List.getElem?_eq_getElem hi]
      exact congrArg some (List.getElem_idxOf hi)
    rw [this] at h3
    cases h3
    simp only [if_pos z]
  · simp only [if_neg z]
theorem step_twice {ns : List Int} {f : Int → Bool} : (step ns (step ns (f, none) ("click", 0)) ("click", 0)).1 = f := by
  have h1 : rng ns "click" none = none := rfl
  have h2 : ∀ an, rng ns "click" an = none := fun an => by
    unfold rng
    cases an with
    | none => rfl
    | some n => exact if_neg fun z => absurd z.1 (by decide)
  rw [step_cl h1, step_cl (h2 _)]
  funext r
  by_cases z : r = rowAt ns 0
  · simp only [if_pos z, Bool.not_not]
  · simp only [if_neg z]
end K31
set_option Elab.async false
set_option pp.maxSteps 1200
set_option linter.all false
set_option maxRecDepth 100000
set_option maxHeartbeats 4000000
namespace K31
open PySem L2 My
def sp_cover_at (K : PySem.W.Frag) : Sp := fun vs H Q _ => ∃ (a m : Addr) (ns ms : List Int) (ix : Int), vs = [.ref a, .ref m, .int ix] ∧ SqL K H a (ns.map V.int) ∧ SqL K H m (ms.map V.int) ∧ ns.Nodup ∧ ns.length ≤ 400 ∧ ms.Pairwise (· < ·) ∧ ms.length ≤ 1000 ∧ (∀ r ∈ ms, r ∈ ns) ∧ 0 ≤ ix ∧ ix < cntB (blocksL (bordersL ns ms)) ∧ ∀ p H' us, H p = none → Ex H H' → H' p = some (.lst us) → AllR (TkR K H') us (coverL (blocksL (bordersL ns ms)) ix) → Q (.ref p) H'
def sp_is_token (K : PySem.W.Frag) : Sp := fun vs H Q _ => ∃ (q : Addr) (t : List Int), vs = [.ref q] ∧ SqT K H q (t.map V.int) ∧ TokI t ∧ ∀ H', Ex H H' → Q (.bl true) H'
def sp_is_best_cover (K : PySem.W.Frag) : Sp := fun vs H Q _ => ∃ (a m c : Addr) (ns ms : List Int) (us : List V) (cv : List (List Int)), vs = [.ref a, .ref m, .ref c] ∧ SqL K H a (ns.map V.int) ∧ SqL K H m (ms.map V.int) ∧ SqL K H c us ∧ ns.length ≤ 400 ∧ AllR (TkR K H) us cv ∧ (cv.length : Int) = costL ns ms ∧ (∀ t ∈ cv, TokI t) ∧ cv.flatten = bordersL ns ms ∧ cv.length ≤ 1000 ∧ ∀ H', Ex H H' → Q (.bl true) H'
def sp_clicks_of_cover (K : PySem.W.Frag) : Sp := fun vs H Q _ => ∃ (a m c : Addr) (ns ms : List Int) (us : List V) (cv : List (List Int)), vs = [.ref a, .ref m, .ref c] ∧ SqL K H a (ns.map V.int) ∧ SqL K H m (ms.map V.int) ∧ SqL K H c us ∧ ns.Nodup ∧ ns.length ≤ 400 ∧ ms.Pairwise (· < ·) ∧ ms.length ≤ 1000 ∧ (∀ r ∈ ms, r ∈ ns) ∧ AllR (TkR K H) us cv ∧ (cv.length : Int) = costL ns ms ∧ (∀ t ∈ cv, TokI t) ∧ cv.flatten = bordersL ns ms ∧ cv.length ≤ 1000 ∧ (singlesL cv).length % 2 = 0 ∧ ∀ p H' us, H p = none → Ex H H' → H' p = some (.lst us) → AllR (IsCl K H') us (clicksL cv) → Q (.ref p) H'
def sp_is_cheapest (K : PySem.W.Frag) : Sp := fun vs H Q _ => ∃ (a m b : Addr) (ns ms : List Int) (xs : List V) (cs : List Cl), vs = [.ref a, .ref m, .ref b] ∧ SqL K H a (ns.map V.int) ∧ SqL K H m (ms.map V.int) ∧ SqL K H b xs ∧ ns.Nodup ∧ ns.length ≤ 400 ∧ ms.Pairwise (· < ·) ∧ ms.length ≤ 1000 ∧ (∀ r ∈ ms, r ∈ ns) ∧ Cls K H xs cs ∧ ClOk ns.length cs ∧ ∀ (b : Bool) H', (b = true ↔ (cs.length : Int) = costL ns ms ∧ ∀ r, r ∈ ms ↔ (done ns [] none cs).1 r = true) → Ex H H' → Q (.bl b) H'
theorem upN_snoc (i : Nat) : upN (i + 1) = upN i ++ [((i : Nat) : Int)] := by
  unfold upN
  rw [List.range_succ, List.map_append]
  rfl
theorem made_len (R : Nat) (g : Int → Bf) (ms : List Int) : (madeL R g ms).length ≤ R := by
  unfold madeL
  refine Nat.le_trans (List.length_filter_le ..) ?_
  rw [upN_len]
  exact Nat.le_refl _
section
variable {w : World} {K : PySem.W.Frag} {mg : Str → Option Value} {base : Heap}
theorem ok_cover_at (T : Txt K mg) : FnOk PR w K mg base (L2.CX PR w) 6 T.a_cover_at T.d_cover_at ["there", "marks", "index"] (sp_cover_at K) := by
  refine T.f_cover_at.okX sc_cover_at (fun vs H Q E h => ?_) (fun cdv A outer s H vs Q E hr h => ?_)
  · obtain ⟨a, m, ns, ms, ix, rfl, _⟩ := h
    rfl
  · obtain ⟨a, m, ns, ms, ix, rfl, ha, hm, nd, nl, pw, ml, sub, i0, i1, k⟩ := h
    refine ⟨_, (pss_cons (ps_set (i := 3) sc_cover_at.nd rfl (by first | exact Or.inl rfl | exact Or.inr rfl) (pe_call (ok_count_covers T) (hr.mono (by decide)) (by rfl) T.g_count_covers T.f_count_covers.kp (b_count_covers T) .nil passX (pa_cons (pv 0) (pa_cons (pv 1) pa_nil)))) (pss_cons (ps_if (pt_not (pt_chain op_le op_lt pe_int (pv 2) (pv 3))) (pss_one (ps_raise rfl (takes_of rfl rfl rfl rfl) (pmk_err (ok_init T) (b_init T) T.e_InvalidNumber (hr.mono (by decide)) (by rfl) T.g_InvalidNumber (pa_cons (pv 2) pa_nil)))) pss_nil) (pss_one (ps_ret (pe_call (ok_cover_in T) (hr.mono (by decide)) (by rfl) T.g_cover_in T.f_cover_in.kp (b_cover_in T) .nil pass0 (pa_cons (pv 0) (pa_cons (pv 1) (pa_cons (pv 2) pa_nil)))))))), ?_⟩
    refine ⟨_, rfl, _, rfl, a, m, ns, ms, rfl, ha, hm, nd, by omega, pw, ml, sub, fun H1 e1 => ?_⟩
    refine ⟨_, rfl, _, _, rfl, rfl, _, rfl, ifT (decide_eq_true i0) ?_⟩
    refine ⟨_, rfl, _, _, rfl, rfl, _, rfl, ifF (by show (!decide (ix < countL ns ms)) = false; rw [decide_eq_true (show ix < countL ns ms from i1)]; rfl) ?_⟩
    exact ⟨_, rfl, _, rfl, _, rfl, a, m, ns, ms, ix, rfl, Evl.ex_l e1 ha, Evl.ex_l e1 hm, nl, i0, fun p H2 us n2 e2 h2 a2 => k p H2 us (none_of e1 n2) (e1.trans e2) h2 a2⟩
theorem ok_is_token (T : Txt K mg) : FnOk PR w K mg base CX0 1 T.a_is_token T.d_is_token ["token"] (sp_is_token K) := by
  refine T.f_is_token.ok sc_is_token (fun vs H Q E h => ?_) (fun cdv A outer s H vs Q E hr h => ?_)
  · obtain ⟨q, t, rfl, _⟩ := h
    rfl
  · obtain ⟨q, t, rfl, hq, tk, k⟩ := h
    refine ⟨_, (pss_one (ps_ret (pe_or (pe_cmpR op_eq (pe_callB call_len_seq (by rfl) T.z_len PySem.boot_len (pa_cons (pv 0) pa_nil)) pe_int (nomark _)) (pe_one (pe_and (pe_cmpR op_eq (pe_callB call_len_seq (by rfl) T.z_len PySem.boot_len (pa_cons (pv 0) pa_nil)) pe_int (nomark _)) (pe_one (pe_cmpR op_eq (pe_ix ix_tup (pv 0) pe_int (fun _ _ => rfl)) (pe_op op_add (pe_ix ix_tup (pv 0) pe_int (fun _ _ => rfl)) pe_int) (nomark _)))))))), ?_⟩
    rcases tk with ⟨b, rfl⟩ | ⟨b, rfl⟩
    · refine ⟨_, rfl, _, _, rfl, .inr hq, rfl, _, rfl, ifT rfl ?_⟩
      exact k H (Evl.Ex.refl _)
    · refine ⟨_, rfl, _, _, rfl, .inr hq, rfl, _, rfl, ifF rfl ?_⟩
      refine ⟨_, rfl, _, _, rfl, .inr hq, rfl, _, rfl, ifT rfl ?_⟩
      refine ⟨_, rfl, _, _, _, _, rfl, rfl, hq, at1, _, rfl, _, _, _, _, rfl, rfl, hq, at0, _, _, rfl, rfl, rfl, ?_⟩
      have : decide (V.int (b + 1) = V.int (b + 1)) = true := by simp
      rw [this]
      exact k H (Evl.Ex.refl _)
theorem ok_is_best_cover (T : Txt K mg) : FnOk PR w K mg base CX0 3 T.a_is_best_cover T.d_is_best_cover ["there", "marks", "cover"] (sp_is_best_cover K) := by
  refine T.f_is_best_cover.ok sc_is_best_cover (fun vs H Q E h => ?_) (fun cdv A outer s H vs Q E hr h => ?_)
  · obtain ⟨a, m, c, ns, ms, us, cv, rfl, _⟩ := h
    rfl
  · obtain ⟨a, m, c, ns, ms, us, cv, rfl, ha, hm, hc, nl, ac, hcost, htk, hfl, cl, k⟩ := h
    refine ⟨_, (pss_cons (ps_if (PW.pt (pw_or (pt_cmpR op_ne (pe_callB call_len_seq (by rfl) T.z_len PySem.boot_len (pa_cons (pv 2) pa_nil)) (pe_call (ok_cost_in T) (hr.mono (by decide)) (by rfl) T.g_cost_in T.f_cost_in.kp (b_cost_in T) .nil pass0 (pa_cons (pv 0) (pa_cons (pv 1) pa_nil))) (nomark _)) (pw_or1 (pt_not (pt_val (pe_callB (cr_all rfl) (by rfl) T.z_all (by decide +kernel) (pa_cons (pe_lc (own := [("token", 3)]) (g := gName 3) (by rfl) sc_is_best_cover.nd (pi_list (pv 2)) (blkOk_by (own := [("token", 3)]) (N := ["there", "marks", "cover", "token", "border"]) (sc := (defScope s_is_best_cover)) (by decide +kernel)) (fun _ _ _ _ _ => (pg_name (i := 3) sc_is_best_cover.nd rfl (by first | exact Or.inl rfl | exact Or.inr rfl))) (fun _ _ _ _ _ => pts_nil) (fun _ _ _ _ _ => (pe_call (ok_is_token T) (hr.mono (by decide)) (by rfl) T.g_is_token T.f_is_token.kp (b_is_token T) .nil pass0 (pa_cons (pv 3) pa_nil)))) pa_nil))))))) (pss_one (ps_ret pe_bl)) pss_nil) (pss_one (ps_ret (pe_cmpR (op_eqD hr.units) (pe_lc2 (own := [("token", 3), ("border", 4)]) (vs1 := [4]) (g := (gName 3)) (g1 := (gName 4)) (by rfl) sc_is_best_cover.nd (pi_list (pv 2)) (blkOk_by (own := [("token", 3), ("border", 4)]) (N := ["there", "marks", "cover", "token", "border"]) (sc := (defScope s_is_best_cover)) (by decide +kernel)) (by decide) (fun _ _ _ _ _ => (pg_name (i := 3) sc_is_best_cover.nd rfl (by first | exact Or.inl rfl | exact Or.inr rfl))) (fun _ _ _ _ _ => pts_nil) (fun _ _ _ _ _ => (piK (r := iTup) (K := K) (by rfl) (pi_tup (pv 3)))) (fun _ _ _ _ _ => (pg_name (i := 4) sc_is_best_cover.nd rfl (by first | exact Or.inl rfl | exact Or.inr rfl))) (fun _ _ _ _ _ => pts_nil) (fun _ _ _ _ _ => (pv 4))) (pe_call (ok_borders_in T) (hr.mono (by decide)) (by rfl) T.g_borders_in T.f_borders_in.kp (b_borders_in T) .nil pass0 (pa_cons (pv 0) (pa_cons (pv 1) pa_nil))) (nomark _))))), ?_⟩
    have ul := ac.1
    have bl := borders_len ns ms
    refine ⟨_, rfl, _, _, rfl, .inl hc, _, rfl, _, rfl, a, m, ns, ms, rfl, ha, hm, by omega, fun H1 e1 => ?_⟩
    refine ⟨rfl, _, rfl, ifF (nef (by rw [ul, hcost])) ?_⟩
    refine ⟨_, rfl, c, rfl, ⟨_, Evl.ex_l e1 hc⟩, fun D hD => lc_mapL (K := K) (a := c) (ys := (us.map fun _ => true).map V.bl) (Evl.ex_l e1 hc) hD (by simp) (Nat.le_trans (show us.length ≤ 1000 by omega) (by decide)) (fun x => rfl) ?_ ?_⟩
    · intro i x y H' e' hx hy Rr kR
      rw [List.getElem?_map, List.getElem?_map, hx] at hy
      cases hy
      obtain ⟨t, ht⟩ : ∃ t, cv[i]? = some t := ⟨_, List.getElem?_eq_getElem (by have := (List.getElem?_eq_some_iff.mp hx).1; omega)⟩
      obtain ⟨q, rfl, hq⟩ := ac.2 i _ _ hx ht
      exact ⟨_, rfl, q, t, rfl, Evl.ex_t (e1.trans e') hq, htk t (List.mem_of_getElem? ht), fun H'' e'' => kR H'' e''⟩
    intro H2 e2 d2
    refine ⟨D, _, rfl, sqI d2, ?_⟩
    have : (us.map fun _ => true).all id = true := by simp
    rw [this]
    refine ⟨_, rfl, ifF rfl ?_⟩
    have e02 := e1.trans e2
    refine ⟨_, rfl, c, rfl, ⟨_, Evl.ex_l e02 hc⟩, fun D2 hD2 => lc2_out (walk_list (K := K) (a := c) (xs := us)) (fun i H' => Ex H2 H' ∧ H' D2 = some (.lst ((cv.take i).flatten.map V.int))) ⟨Evl.Ex.new hD2, upd_same⟩ (fun i H' _ z => Evl.ex_l (e02.trans z.1) hc) ?_ ?_⟩
    · rintro i x HX H3 hi ⟨e3, d3⟩ ⟨rfl, hv⟩
      have hv : us[i]? = some x := hv
      obtain ⟨t, ht⟩ : ∃ t, cv[i]? = some t := ⟨_, List.getElem?_eq_getElem (by omega)⟩
      obtain ⟨q, rfl, hq⟩ := ac.2 i _ _ hv ht
      refine ⟨rfl, ?_⟩
      show _
      have hq3 := Evl.ex_t (e02.trans e3) hq
      have tl : t.length ≤ 2 := by
        rcases htk t (List.mem_of_getElem? ht) with ⟨b, rfl⟩ | ⟨b, rfl⟩
        · show 1 ≤ 2; omega
        · show 2 ≤ 2; omega
      have flen : ∀ l : List (List Int), l.length ≤ 1000 → (∀ t ∈ l, TokI t) → l.flatten.length ≤ 2000 := fun l h1 h2 => by
        have := tok_half h2
        omega
      have fl3 := flen (cv.take i) (by rw [List.length_take]; omega) fun t ht => htk t (List.mem_of_mem_take ht)
      refine ⟨_, rfl, q, rfl, ⟨_, hq3⟩, lc2_in (walk_tup (K := K) (a := q) (xs := t.map V.int)) (fun j H' => Ex H2 H' ∧ H' D2 = some (.lst (((cv.take i).flatten ++ t.take j).map V.int))) ⟨e3, ?_⟩ (fun j H' _ z => Evl.ex_t (e02.trans z.1) hq) ?_ ?_⟩
      · show _ = some (HO.lst (((cv.take i).flatten ++ []).map V.int))
        rw [List.append_nil]
        exact d3
      · rintro j x HX H4 hj ⟨e4, d4⟩ ⟨rfl, hx⟩
        obtain ⟨b, hb, rfl⟩ := mapI_get hx
        have hj : j < t.length := by simpa using hj
        refine ⟨rfl, ?_⟩
        show _
        refine ⟨_, rfl, _, d4, ?_, Evl.Ex.mut e4 hD2, ?_⟩
        · rw [List.length_map, List.length_append, List.length_take]
          exact Nat.lt_of_le_of_lt (show _ ≤ 2002 by omega) (by decide)
        · rw [upd_same, take_snoc hb, ← List.append_assoc, List.map_append (f := V.int) (l₂ := [b])]
          rfl
      · rintro H' ⟨e4, d4⟩
        refine ⟨e4, ?_⟩
        rw [List.length_map, List.take_length] at d4
        rw [take_snoc ht, List.flatten_append]
        have : [t].flatten = t := by simp
        rw [this]
        exact d4
    · rintro H3 ⟨e3, d3⟩
      rw [ul, List.take_length, hfl] at d3
      have e03 := e02.trans e3
      refine ⟨_, rfl, _, rfl, a, m, ns, ms, rfl, Evl.ex_l e03 ha, Evl.ex_l e03 hm, by omega, fun p H4 n4 e4 h4 => ?_⟩
      refine eqI_ (sqI (e4 _ _ d3)) (sqI h4) ?_
      rw [decide_eq_true (rfl : bordersL ns ms = bordersL ns ms)]
      exact k H4 (e03.trans e4)
theorem ok_clicks_of_cover (T : Txt K mg) : FnOk PR w K mg base (L2.CX PR w) 5 T.a_clicks_of_cover T.d_clicks_of_cover ["there", "marks", "cover"] (sp_clicks_of_cover K) := by
  refine T.f_clicks_of_cover.okX sc_clicks_of_cover (fun vs H Q E h => ?_) (fun cdv A outer s H vs Q E hr h => ?_)
  · obtain ⟨a, m, c, ns, ms, us, cv, rfl, _⟩ := h
    rfl
  · obtain ⟨a, m, c, ns, ms, us, cv, rfl, ha, hm, hc, nd, nl, pw, ml, sub, ac, hcost, htk, hfl, cl, ev, k⟩ := h
    refine ⟨_, (pss_cons (ps_expr (pe_call (ok_check_case T) (hr.mono (by decide)) (by rfl) T.g_check_case T.f_check_case.kp (b_check_case T) .nil passX (pa_cons (pv 0) (pa_cons (pv 1) pa_nil)))) (pss_cons (ps_if (pt_not (pt_val (pe_call (ok_is_best_cover T) (hr.mono (by decide)) (by rfl) T.g_is_best_cover T.f_is_best_cover.kp (b_is_best_cover T) .nil pass0 (pa_cons (pv 0) (pa_cons (pv 1) (pa_cons (pv 2) pa_nil)))))) (pss_one (ps_raise rfl (takes_of rfl rfl rfl rfl) (pmk_err (ok_init T) (b_init T) T.e_InvalidValue (hr.mono (by decide)) (by rfl) T.g_InvalidValue (pa_cons (pe_callTy call_listG (by rfl) T.z_list (by decide +kernel) (pa_cons (pv 2) pa_nil)) pa_nil)))) pss_nil) (pss_one (ps_ret (pe_call (ok_clicks_in T) (hr.mono (by decide)) (by rfl) T.g_clicks_in T.f_clicks_in.kp (b_clicks_in T) .nil pass0 (pa_cons (pv 2) pa_nil)))))), ?_⟩
    refine ⟨_, rfl, _, rfl, a, m, ns, ms, rfl, ha, hm, nd, by omega, pw, ml, sub, fun H1 e1 => ?_⟩
    refine ⟨_, rfl, _, rfl, _, rfl, a, m, c, ns, ms, us, cv, rfl, Evl.ex_l e1 ha, Evl.ex_l e1 hm, Evl.ex_l e1 hc, nl, ac.mono fun v x r => r.ex e1, hcost, htk, hfl, cl, fun H2 e2 => ?_⟩
    have e02 := e1.trans e2
    refine ⟨_, rfl, ifF rfl ?_⟩
    exact ⟨_, rfl, c, us, cv, rfl, Evl.ex_l e02 hc, ac.mono fun v x r => r.ex e02, by omega, ev, fun p H3 us n3 e3 h3 a3 => k p H3 us (none_of e02 n3) (e02.trans e3) h3 a3⟩
theorem ok_is_cheapest (T : Txt K mg) : FnOk PR w K mg base (L2.CX PR w) 5 T.a_is_cheapest T.d_is_cheapest ["there", "marks", "clicks"] (sp_is_cheapest K) := by
  refine T.f_is_cheapest.okX sc_is_cheapest (fun vs H Q E h => ?_) (fun cdv A outer s H vs Q E hr h => ?_)
  · obtain ⟨a, m, b, ns, ms, xs, cs, rfl, _⟩ := h
    rfl
  · obtain ⟨a, m, b, ns, ms, xs, cs, rfl, ha, hm, hb, nd, nl, pw, ml, sub, hc, ok, k⟩ := h
    refine ⟨_, (pss_cons (ps_expr (pe_call (ok_check_case T) (hr.mono (by decide)) (by rfl) T.g_check_case T.f_check_case.kp (b_check_case T) .nil passX (pa_cons (pv 0) (pa_cons (pv 1) pa_nil)))) (pss_cons (ps_expr (pe_call (ok_check_clicks T) (hr.mono (by decide)) (by rfl) T.g_check_clicks T.f_check_clicks.kp (b_check_clicks T) .nil passX (pa_cons (pv 0) (pa_cons (pv 2) pa_nil)))) (pss_one (ps_ret (pe_and (pe_cmpR op_eq (pe_callB call_len_seq (by rfl) T.z_len PySem.boot_len (pa_cons (pv 2) pa_nil)) (pe_call (ok_cost_in T) (hr.mono (by decide)) (by rfl) T.g_cost_in T.f_cost_in.kp (b_cost_in T) .nil pass0 (pa_cons (pv 0) (pa_cons (pv 1) pa_nil))) (nomark _)) (pe_one (pe_cmpR (op_eqD hr.units) (pe_ix ix_tup (pe_call (ok_marked_in T) (hr.mono (by decide)) (by rfl) T.g_marked_in T.f_marked_in.kp (b_marked_in T) .nil pass0 (pa_cons (pv 0) (pa_cons (pe_lstG pa_nil) (pa_cons pe_non (pa_cons (pv 2) pa_nil))))) pe_int (fun _ _ => rfl)) (pv 1) (nomark _)))))))), ?_⟩
    have xl := hc.1
    refine ⟨_, rfl, _, rfl, a, m, ns, ms, rfl, ha, hm, nd, by omega, pw, ml, sub, fun H1 e1 => ?_⟩
    refine ⟨_, rfl, _, rfl, a, b, ns, xs, cs, rfl, Evl.ex_l e1 ha, Evl.ex_l e1 hb, hc.ex e1, ok, fun H2 e2 => ?_⟩
    have e02 := e1.trans e2
    refine ⟨_, rfl, _, _, rfl, .inl (Evl.ex_l e02 hb), _, rfl, _, rfl, a, m, ns, ms, rfl, Evl.ex_l e02 ha, Evl.ex_l e02 hm, by omega, fun H3 e3 => ?_⟩
    have e03 := e02.trans e3
    refine ⟨rfl, _, rfl, ?_⟩
    rw [decInt]
    refine ifB (fun c => ?_) (fun c => ?_)
    · have c : ((xs.length : Nat) : Int) = costL ns ms := of_decide_eq_true c
      refine ⟨_, rfl, (by show 0 ≤ sizeLine; decide), fun p4 H4 n4 e4 h4 => ?_⟩
      have e04 := e03.trans e4
      refine ⟨_, rfl, a, p4, b, ns, [], xs, cs, none, rfl, Evl.ex_l e04 ha, sqI h4, Evl.ex_l e04 hb, nd, by omega, List.nodup_nil, (by show 0 ≤ 1000; omega), hc.ex e04, ok, fun p5 q5 H5 rs n5 e5 npq nq5 hq5 hp5 prs hrs hss => ?_⟩
      have e05 := e04.trans e5
      refine ⟨_, _, _, _, rfl, rfl, sqT hq5, at0, _, rfl, eqI_ (sqI hp5) (Evl.ex_l e05 hm) ?_⟩
      refine k _ H5 ?_ e05
      rw [decide_eq_true_iff]
      constructor
      · rintro rfl
        exact ⟨by rw [← xl]; exact c, hrs⟩
      · rintro ⟨_, h⟩
        exact asc_unique prs pw fun r => by rw [hrs, h]
    · have c : ¬ ((xs.length : Nat) : Int) = costL ns ms := of_decide_eq_false c
      refine k false H3 ?_ e03
      constructor
      · intro z
        cases z
      · rintro ⟨h, _⟩
        exact absurd (by rw [xl]; exact h) c
end
end K31
set_option Elab.async false
set_option pp.maxSteps 1200
set_option linter.all false
set_option maxRecDepth 100000
set_option maxHeartbeats 4000000
namespace K31
open PySem L2 My
theorem ne_lst {H : Hp} {a D : Addr} {xs : List V} {kvs : List (Key × V)} (h1 : H a = some (.lst xs)) (h2 : H D = some (.dK kvs)) : a ≠ D := by
  rintro rfl
  rw [h1] at h2
  cases h2
theorem ne_tup {H : Hp} {a D : Addr} {xs : List V} {kvs : List (Key × V)} (h1 : H a = some (.tup xs)) (h2 : H D = some (.dK kvs)) : a ≠ D := by
  rintro rfl
  rw [h1] at h2
  cases h2
theorem bd_nil (n : Nat) : bdA n [] = [] := by
  refine List.eq_nil_iff_forall_not_mem.mpr fun b hb => ?_
  have := md_inv (n := n) (mv := []) (fun m h => nomatch h) 0 (Nat.le_refl _) b hb
  omega
theorem done_next {ns ms : List Int} {an : Option Int} {mv : List Mv} {i : Nat} {m : Mv} (hm : ∀ r, r ∈ ms ↔ (done ns [] none ((mv.take i).map clM)).1 r = true) (ha : an = (done ns [] none ((mv.take i).map clM)).2) (h : mv[i]? = some m) : done ns ms an [clM m] = done ns [] none ((mv.take (i + 1)).map clM) := by
  have fe : (fun r => decide (r ∈ ms)) = (done ns [] none ((mv.take i).map clM)).1 := funext fun r => by
    rw [Bool.eq_iff_iff, decide_eq_true_iff]
    exact hm r
  rw [take_snoc h, List.map_append]
  unfold done
  rw [List.foldl_append]
  show step ns (fun r => decide (r ∈ ms), an) (clM m) = step ns _ (clM m)
  rw [fe, ha]
  rfl
theorem clok_mv {n : Nat} {mv : List Mv} (ok : ∀ m ∈ mv, m.2 < n) : ClOk n (mv.map clM) := fun c hc => by
  obtain ⟨m, hm, rfl⟩ := List.mem_map.mp hc
  have := ok m hm
  refine ⟨?_, ?_, ?_⟩
  · unfold clM wordC
    cases m.1 with
    | true => exact .inr rfl
    | false => exact .inl rfl
  · show (0 : Int) ≤ ((m.2 : Nat) : Int)
    omega
  · show ((m.2 : Nat) : Int) < (n : Nat)
    omega
theorem bd_in {n : Nat} {mv : List Mv} (ok : ∀ m ∈ mv, m.2 < n) (i : Nat) (hi : i ≤ mv.length) : ∀ b ∈ bdA n (mv.take i), b ∈ upN (n + 1) := fun b hb => by
  obtain ⟨_, _, m, hm, h⟩ := md_inv ok i hi b hb
  have := ok m (List.mem_of_getElem? hm)
  exact upN_in (by omega) (by omega)
theorem bd_len {n : Nat} {mv : List Mv} (ok : ∀ m ∈ mv, m.2 < n) : (bdA n mv).length ≤ n + 1 := by
  have v : VS n (scA n mv) := vsA mv _ (vs0 n) ok
  unfold bdA bordersC
  refine Nat.le_trans (List.length_filter_le ..) ?_
  rw [List.length_map, List.length_range, v.len]
  exact Nat.le_refl _
def ggA (n : Nat) (mv : List Mv) (i j : Nat) (b : Int) : Int := if b ∈ (bdA n (mv.take (i + 1))).take j ∧ b ∉ bdA n (mv.take i) then (i : Nat) else mdA n mv i b
def mkL (n : Nat) (mv : List Mv) : List (Int × Int) := (bdA n mv).map fun b => (b, mdA n mv mv.length b)
def sp_makers_in (K : PySem.W.Frag) : Sp := fun vs H Q _ => ∃ (a b : Addr) (ns : List Int) (xs : List V) (mv : List Mv), vs = [.ref a, .ref b] ∧ SqL K H a (ns.map V.int) ∧ SqL K H b xs ∧ ns.Nodup ∧ ns.length ≤ 100 ∧ Cls K H xs (mv.map clM) ∧ (∀ m ∈ mv, m.2 < ns.length) ∧ ∀ p H' us, H p = none → Ex H H' → H' p = some (.lst us) → AllR (BkR K H') us (mkL ns.length mv) → Q (.ref p) H'
def sp_makers (K : PySem.W.Frag) : Sp := sp_makers_in K
section
variable {w : World} {K : PySem.W.Frag} {mg : Str → Option Value} {base : Heap}
theorem ok_makers_in (T : Txt K mg) : FnOk PR w K mg base CX0 3 T.a_makers_in T.d_makers_in ["there", "clicks"] (sp_makers_in K) := by
  refine T.f_makers_in.ok sc_makers_in (fun vs H Q E h => ?_) (fun cdv A outer s H vs Q E hr h => ?_)
  · obtain ⟨a, b, ns, xs, mv, rfl, _⟩ := h
    rfl
  · obtain ⟨a, b, ns, xs, mv, rfl, ha, hb, nd, nl, hc, ok, k⟩ := h
    refine ⟨_, (pss_cons (ps_par (by rfl) sc_makers_in.nd rfl rfl (by decide) rfl rfl (i := 2) (j := 3) (pa_cons (pe_lstG pa_nil) (pa_cons pe_non pa_nil)) (by rfl)) (pss_cons (ps_asg (pe_tupG (pa_cons (pe_lstG pa_nil) (pa_cons pe_dnewK pa_nil))) (pg_tup rfl (pgs_cons (pg_name (i := 4) sc_makers_in.nd rfl (by first | exact Or.inl rfl | exact Or.inr rfl)) (pgs_cons (pg_name (i := 5) sc_makers_in.nd rfl (by first | exact Or.inl rfl | exact Or.inr rfl)) pgs_nil)))) (pss_cons (ps_for PassesOwn.never rfl (pi_enum (by rfl) T.z_enumerate (pa_cons (pv 1) pa_nil)) (pg_tup rfl (pgs_cons (pg_name (i := 6) sc_makers_in.nd rfl (by first | exact Or.inl rfl | exact Or.inr rfl)) (pgs_cons (pg_name (i := 7) sc_makers_in.nd rfl (by first | exact Or.inl rfl | exact Or.inr rfl)) pgs_nil))) (pss_cons (ps_asg (pe_call (ok_marked_in T) (hr.mono (by decide)) (by rfl) T.g_marked_in T.f_marked_in.kp (b_marked_in T) .nil pass0 (pa_cons (pv 0) (pa_cons (pv 2) (pa_cons (pv 3) (pa_cons (pe_lstG (pa_cons (pv 7) pa_nil)) pa_nil))))) (pg_tup rfl (pgs_cons (pg_name (i := 2) sc_makers_in.nd rfl (by first | exact Or.inl rfl | exact Or.inr rfl)) (pgs_cons (pg_name (i := 3) sc_makers_in.nd rfl (by first | exact Or.inl rfl | exact Or.inr rfl)) pgs_nil)))) (pss_cons (ps_set (i := 8) sc_makers_in.nd rfl (by first | exact Or.inl rfl | exact Or.inr rfl) (pe_call (ok_borders_in T) (hr.mono (by decide)) (by rfl) T.g_borders_in T.f_borders_in.kp (b_borders_in T) .nil pass0 (pa_cons (pv 0) (pa_cons (pv 2) pa_nil)))) (pss_cons (ps_for PassesOwn.never rfl (pi_list (pv 8)) (pg_name (i := 9) sc_makers_in.nd rfl (by first | exact Or.inl rfl | exact Or.inr rfl)) (pss_one (ps_if (pt_cmpR op_notIn_seq (pv 9) (pv 4) (by rfl)) (pss_one (ps_dput (hu_of hr) (pv 5) (pv 9) (pv 6) rfl)) pss_nil))) (pss_one (ps_set (i := 4) sc_makers_in.nd rfl (by first | exact Or.inl rfl | exact Or.inr rfl) (pv 8))))))) (pss_one (ps_ret (pe_lc (own := [("border", 9)]) (g := gName 9) (by rfl) sc_makers_in.nd (pi_list (pv 4)) (blkOk_by (own := [("border", 9)]) (N := ["there", "clicks", "marks", "anchor", "before", "made", "index", "click", "behind", "border"]) (sc := (defScope s_makers_in)) (by decide +kernel)) (fun _ _ _ _ _ => (pg_name (i := 9) sc_makers_in.nd rfl (by first | exact Or.inl rfl | exact Or.inr rfl))) (fun _ _ _ _ _ => pts_nil) (fun _ _ _ _ _ => (pe_tupG (pa_cons (pv 9) (pa_cons (pe_dget (hu_of hr) (pv 5) (pv 9) (fun _ _ => rfl)) pa_nil)))))))))), ?_⟩
    have xl := hc.1
    rw [List.length_map] at xl
    refine ⟨(by show 0 ≤ sizeLine; decide), fun M0 H1 n1 e1 h1 => ?_⟩
    refine ⟨_, _, rfl, ?_⟩
    refine ⟨(by show 0 ≤ sizeLine; decide), fun B0 H2 n2 e2 h2 => ?_⟩
    intro D n3
    have e3 : Ex H2 (upd H2 D (.dK [])) := Evl.Ex.new n3
    have h3 : upd H2 D (.dK []) D = some (.dK []) := upd_same
    generalize upd H2 D (.dK []) = H3 at e3 h3 ⊢
    refine ⟨(by show 2 ≤ sizeLine; decide), fun pt H4 n4 e4 h4 => ?_⟩
    refine ⟨_, _, rfl, sqT h4, rfl, _, _, rfl, _, _, rfl, rfl, ?_⟩
    have e04 := e1.trans (e2.trans (e3.trans e4))
    have nD : H D = none := none_of (e1.trans e2) n3
    refine ⟨_, rfl, b, xs, rfl, Evl.ex_l e04 hb, for_it (walk_enum (K := K) (a := b) (xs := xs)) (fun i σ H' => ∃ (M B : Addr) (ms : List Int) (an : Option Int) (ks : List Int) (v6 v7 v8 v9 : Option V), σ = [some (.ref a), some (.ref b), some (.ref M), some (anV an), some (.ref B), some (.ref D), v6, v7, v8, v9] ∧ Ex H H' ∧ H' M = some (.lst (ms.map V.int)) ∧ ms.Pairwise (· < ·) ∧ (∀ r ∈ ms, r ∈ ns) ∧ (∀ r, r ∈ ms ↔ (done ns [] none ((mv.take i).map clM)).1 r = true) ∧ an = (done ns [] none ((mv.take i).map clM)).2 ∧ H' B = some (.lst ((bdA ns.length (mv.take i)).map V.int)) ∧ H' D = some (.dK (kvsOf ks fun x => .int (mdA ns.length mv i x))) ∧ ks.Nodup ∧ (∀ x ∈ ks, x ∈ upN (ns.length + 1)) ∧ ∀ x ∈ bdA ns.length (mv.take i), x ∈ ks) ⟨M0, B0, [], none, [], _, _, _, _, rfl, e04, (e2.trans (e3.trans e4)) _ _ h1, List.Pairwise.nil, (fun r h => nomatch h), (fun r => by show r ∈ ([] : List Int) ↔ decide (r ∈ ([] : List Int)) = true; simp), rfl, ?_, e4 _ _ h3, List.nodup_nil, (fun x h => nomatch h), ?_⟩ (fun i σ H' _ ⟨_, _, _, _, _, _, _, _, _, _, e, _⟩ => Evl.ex_l e hb) ?_ ?_⟩
    · show H4 B0 = some (.lst ((bdA ns.length []).map V.int))
      rw [bd_nil]
      exact (e3.trans e4) _ _ h2
    · show ∀ x ∈ bdA ns.length [], x ∈ []
      rw [bd_nil]
      exact fun x h => h
    · rintro i x σ HX H5 hi ⟨M, B, ms, an, ks, v6, v7, v8, v9, rfl, e5, hM, pw, sub, hms, han, hB, hD, nk, kin, bin⟩ ⟨t, tx, ty, rfl, nt, rfl, hx, hy⟩
      cases hx
      have hy : xs[i]? = some ty := hy
      have him : i < mv.length := by omega
      have hmi : mv[i]? = some (mv[i]'him) := List.getElem?_eq_getElem him
      obtain ⟨m, em⟩ : ∃ m, m = mv[i]'him := ⟨_, rfl⟩
      rw [← em] at hmi
      have hm2 : m.2 < ns.length := ok m (List.mem_of_getElem? hmi)
      obtain ⟨q, rfl, hq⟩ := hc.2 i _ _ hy (by rw [List.getElem?_map, hmi]; rfl)
      have e6 : Ex HX (upd HX t (.tup [.int (i : Nat), .ref q])) := Evl.Ex.new nt
      have hpt : upd HX t (.tup [.int (i : Nat), .ref q]) t = some (.tup [.int (i : Nat), .ref q]) := upd_same
      generalize upd HX t (.tup [.int (i : Nat), .ref q]) = H6 at e6 hpt ⊢
      have e06 := e5.trans e6
      refine ⟨_, _, rfl, sqT hpt, rfl, _, _, rfl, _, _, rfl, rfl, ?_⟩
      refine st_eq (σ' := [some (.ref a), some (.ref b), some (.ref M), some (anV an), some (.ref B), some (.ref D), some (.int (i : Nat)), some (.ref q), v8, v9]) (P := fun σ => tSeq _ _ _ σ H6) rfl ?_
      have ml := nodup_len (pw_nodup pw) sub
      refine ⟨_, rfl, _, rfl, _, rfl, _, rfl, (by show 1 ≤ sizeLine; decide), fun p7 H7 n7 e7 h7 => ?_⟩
      have e07 := e06.trans e7
      have cls1 : Cls K H7 [V.ref q] [clM m] := ⟨rfl, fun j v c h1 h2 => by
        cases j with
        | zero =>
          cases h1
          cases h2
          exact ⟨q, rfl, Evl.ex_t e07 hq⟩
        | succ j => simp at h1⟩
      have ok1 : ClOk ns.length [clM m] := clok_mv (mv := [m]) fun x hx => by
        rw [List.mem_singleton.mp hx]
        exact hm2
      refine ⟨a, M, p7, ns, ms, [V.ref q], [clM m], an, rfl, Evl.ex_l e07 ha, sqI ((e6.trans e7) _ _ hM), sqI h7, nd, by omega, pw_nodup pw, by omega, cls1, ok1, fun M' qt H8 rs n8 e8 npq nqt hqt hM' prs hrs hss => ?_⟩
      rw [done_next hms han hmi] at hrs hqt
      refine ⟨_, _, rfl, sqT hqt, rfl, _, _, rfl, _, _, rfl, rfl, ?_⟩
      obtain ⟨an', han'⟩ : ∃ an', an' = (done ns [] none ((mv.take (i + 1)).map clM)).2 := ⟨_, rfl⟩
      rw [← han']
      have rsub : ∀ r ∈ rs, r ∈ ns := fun r hr' => (List.mem_append.mp (hss r hr')).elim (sub r) id
      have oki : ∀ m ∈ mv.take (i + 1), m.2 < ns.length := fun m hm => ok m (List.mem_of_mem_take hm)
      have fl := flg_done nd oki hrs
      have eb : bordersL ns rs = bdA ns.length (mv.take (i + 1)) := by
        rw [borders_C, fl]
        rfl
      have e08 := e07.trans e8
      have rl := nodup_len (pw_nodup prs) rsub
      refine ⟨_, rfl, _, rfl, a, M', ns, rs, rfl, Evl.ex_l e08 ha, sqI hM', by omega, fun B' H9 n9 e9 h9 => ?_⟩
      rw [eb] at h9
      have e09 := e08.trans e9
      have e69 := e7.trans (e8.trans e9)
      have hB9 := (e6.trans e69) _ _ hB
      have hD9 := (e6.trans e69) _ _ hD
      have hM9 := e9 _ _ hM'
      have nBD := ne_lst hB9 hD9
      have nMD := ne_lst hM9 hD9
      have nB'D := ne_lst h9 hD9
      refine st_eq (σ' := [some (.ref a), some (.ref b), some (.ref M'), some (anV an'), some (.ref B), some (.ref D), some (.int (i : Nat)), some (.ref q), some (.ref B'), v9]) (P := fun σ => tSeq _ _ _ σ H9) rfl ?_
      refine ⟨_, rfl, B', rfl, ⟨_, sqI h9⟩, for_list (K := K) (a := B') (xs := (bdA ns.length (mv.take (i + 1))).map V.int) (fun j σ H' => ∃ (ks' : List Int) (w9 : Option V), σ = [some (.ref a), some (.ref b), some (.ref M'), some (anV an'), some (.ref B), some (.ref D), some (.int (i : Nat)), some (.ref q), some (.ref B'), w9] ∧ Exj D H9 H' ∧ Ex H H' ∧ H' D = some (.dK (kvsOf ks' fun x => .int (ggA ns.length mv i j x))) ∧ ks'.Nodup ∧ (∀ x ∈ ks', x ∈ upN (ns.length + 1)) ∧ (∀ x ∈ bdA ns.length (mv.take i), x ∈ ks') ∧ ∀ x ∈ (bdA ns.length (mv.take (i + 1))).take j, x ∈ ks') ⟨ks, _, rfl, Exj.refl _ _, e09, ?_, nk, kin, bin, (fun x h => nomatch h)⟩ (fun j σ H' _ ⟨_, _, _, y, _⟩ => sqI (y _ _ nB'D h9)) ?_ ?_⟩
      · rw [hD9]
        refine congrArg some (congrArg HO.dK (kvs_congr fun x _ => ?_))
        unfold ggA
        rw [if_neg (fun z => nomatch z.1)]
      · rintro j y σ HA hj ⟨ks', w9, rfl, yA, eA, dA, nA, kA, bA, tA⟩
        obtain ⟨bd, hbd, rfl⟩ := mapI_get hj
        have binU := bd_in ok (i + 1) (by omega) bd (List.mem_of_getElem? hbd)
        show _
        refine ⟨_, rfl, _, rfl, _, _, rfl, .inl (sqI (yA _ _ nBD hB9)), rfl, flatI _, _, rfl, ?_⟩
        rw [inV_int]
        refine ifB (fun c => ?_) (fun c => ?_)
        · have c : bd ∉ bdA ns.length (mv.take i) := fun z => by
            have c : (!decide (bd ∈ bdA ns.length (mv.take i))) = true := c
            rw [decide_eq_true z] at c
            cases c
          have kl := nodup_len nA kA
          rw [upN_len] at kl
          refine ⟨_, rfl, _, rfl, _, rfl, _, _, rfl, .inl ⟨_, Sum.inl bd, dA, rfl, Nat.lt_of_le_of_lt (show _ ≤ 200 by rw [kvs_len]; omega) (by decide), rfl⟩, ?_⟩
          rw [putK_kvs]
          refine ⟨if bd ∈ ks' then ks' else ks' ++ [bd], _, rfl, yA.upd, Evl.Ex.mut eA nD, ?_, put_nodup nA bd, fun x hx => (mem_put.mp hx).elim (kA x) (fun z => by rw [z]; exact binU), fun x hx => mem_put.mpr (.inl (bA x hx)), fun x hx => ?_⟩
          · rw [upd_same]
            refine congrArg some (congrArg HO.dK (kvs_congr fun x _ => ?_))
            unfold ggA
            rw [take_snoc hbd]
            by_cases z : x = bd
            · rw [if_pos z, if_pos ⟨by rw [z]; exact List.mem_append_right _ (List.mem_singleton.mpr rfl), by rw [z]; exact c⟩]
            · rw [if_neg z]
              have : (x ∈ (bdA ns.length (mv.take (i + 1))).take j ++ [bd] ∧ x ∉ bdA ns.length (mv.take i)) ↔ (x ∈ (bdA ns.length (mv.take (i + 1))).take j ∧ x ∉ bdA ns.length (mv.take i)) := by
                rw [List.mem_append, List.mem_singleton]
                simp [z]
              simp only [this]
          · rw [take_snoc hbd] at hx
            rcases List.mem_append.mp hx with z | z
            · exact mem_put.mpr (.inl (tA x z))
            · exact mem_put.mpr (.inr (List.mem_singleton.mp z))
        · have c : bd ∈ bdA ns.length (mv.take i) := by
            have c : (!decide (bd ∈ bdA ns.length (mv.take i))) = false := c
            simpa using c
          refine ⟨ks', _, rfl, yA, eA, ?_, nA, kA, bA, fun x hx => ?_⟩
          · rw [dA]
            refine congrArg some (congrArg HO.dK (kvs_congr fun x _ => ?_))
            unfold ggA
            rw [take_snoc hbd]
            have : (x ∈ (bdA ns.length (mv.take (i + 1))).take j ++ [bd] ∧ x ∉ bdA ns.length (mv.take i)) ↔ (x ∈ (bdA ns.length (mv.take (i + 1))).take j ∧ x ∉ bdA ns.length (mv.take i)) := by
              rw [List.mem_append, List.mem_singleton]
              constructor
              · rintro ⟨z | z, h⟩
                · exact ⟨z, h⟩
                · rw [z] at h
                  exact absurd c h
              · rintro ⟨z, h⟩
                exact ⟨.inl z, h⟩
            simp only [this]
          · rw [take_snoc hbd] at hx
            rcases List.mem_append.mp hx with z | z
            · exact tA x z
            · rw [List.mem_singleton.mp z]
              exact bA bd c
      · rintro σ HA ⟨ks', w9, rfl, yA, eA, dA, nA, kA, bA, tA⟩
        rw [List.length_map] at dA tA
        rw [List.take_length] at tA
        refine ⟨_, rfl, ?_⟩
        refine ⟨M', B', rs, an', ks', _, _, _, _, rfl, eA, yA _ _ nMD hM9, prs, rsub, hrs, rfl, yA _ _ nB'D h9, ?_, nA, kA, tA⟩
        rw [dA]
        refine congrArg some (congrArg HO.dK (kvs_congr fun x _ => ?_))
        unfold ggA
        rw [List.take_length]
        rfl
    · rintro σ H5 ⟨M, B, ms, an, ks, v6, v7, v8, v9, rfl, e5, hM, pw, sub, hms, han, hB, hD, nk, kin, bin⟩
      rw [xl] at hB hD bin
      rw [List.take_length] at hB bin
      have bl := bd_len ok
      refine ⟨_, rfl, B, rfl, ⟨_, sqI hB⟩, fun D2 hD2 => lc_it (walk_list (K := K) (a := B) (xs := (bdA ns.length mv).map V.int)) (fun i H' => ∃ us, Ex H5 H' ∧ H' D2 = some (.lst us) ∧ AllR (BkR K H') us (((bdA ns.length mv).take i).map fun b => (b, mdA ns.length mv mv.length b))) ⟨[], Evl.Ex.new hD2, upd_same, AllR.nil⟩ (fun i H' _ ⟨_, e, _⟩ => sqI (e _ _ hB)) ?_ ?_⟩
      · rintro i x HX H6 hi ⟨us, e6, d6, a6⟩ ⟨rfl, hx⟩
        obtain ⟨bd, hbd, rfl⟩ := mapI_get hx
        have hi : i < (bdA ns.length mv).length := by simpa using hi
        have ul := a6.1
        rw [List.length_map, List.length_take] at ul
        refine ⟨rfl, ?_⟩
        show _
        refine ⟨_, rfl, _, rfl, _, rfl, D, _, rfl, .inl ⟨_, Sum.inl bd, .inl (e6 _ _ hD), rfl, by rw [valV_kvs, if_pos (bin bd (List.mem_of_getElem? hbd))]⟩, (by show 2 ≤ sizeLine; decide), fun p H7 n7 e7 h7 => ?_⟩
        have d7 := e7 _ _ d6
        have np : p ≠ D2 := (ne_of_none d6 n7).symm
        have ej : Exj D2 H6 (upd H7 D2 (.lst (us ++ [.ref p]))) := (Exj.of e7).upd
        refine ⟨us, d7, Nat.lt_of_le_of_lt (show us.length ≤ 200 by omega) (by decide), us ++ [.ref p], Evl.Ex.mut (e6.trans e7) hD2, upd_same, ?_⟩
        rw [take_snoc hbd, List.map_append]
        refine AllR.snoc (a6.mono fun v x r => r.exj ej d6) ⟨p, rfl, sqT ?_⟩
        rw [upd_ne np, h7]
      · rintro H6 ⟨us, e6, d6, a6⟩
        rw [List.length_map, List.take_length] at a6
        exact k D2 H6 us (none_of e5 hD2) (e5.trans e6) d6 a6
theorem ok_makers (T : Txt K mg) : FnOk PR w K mg base (L2.CX PR w) 4 T.a_makers T.d_makers ["there", "clicks"] (sp_makers K) := by
  refine T.f_makers.okX sc_makers (fun vs H Q E h => ?_) (fun cdv A outer s H vs Q E hr h => ?_)
  · obtain ⟨a, b, ns, xs, mv, rfl, _⟩ := h
    rfl
  · obtain ⟨a, b, ns, xs, mv, rfl, ha, hb, nd, nl, hc, ok, k⟩ := h
    refine ⟨_, (pss_cons (ps_expr (pe_call (ok_check_there T) (hr.mono (by decide)) (by rfl) T.g_check_there T.f_check_there.kp (b_check_there T) .nil passX (pa_cons (pv 0) pa_nil))) (pss_cons (ps_expr (pe_call (ok_check_clicks T) (hr.mono (by decide)) (by rfl) T.g_check_clicks T.f_check_clicks.kp (b_check_clicks T) .nil passX (pa_cons (pv 0) (pa_cons (pv 1) pa_nil)))) (pss_one (ps_ret (pe_call (ok_makers_in T) (hr.mono (by decide)) (by rfl) T.g_makers_in T.f_makers_in.kp (b_makers_in T) .nil pass0 (pa_cons (pv 0) (pa_cons (pv 1) pa_nil))))))), ?_⟩
    refine ⟨_, rfl, a, ns, rfl, ha, nd, by omega, ?_⟩
    refine ⟨_, rfl, _, rfl, a, b, ns, xs, mv.map clM, rfl, ha, hb, hc, clok_mv ok, fun H1 e1 => ?_⟩
    exact ⟨_, rfl, _, rfl, a, b, ns, xs, mv, rfl, Evl.ex_l e1 ha, Evl.ex_l e1 hb, nd, nl, hc.ex e1, ok, fun p H2 us n2 e2 h2 a2 => k p H2 us (none_of e1 n2) (e1.trans e2) h2 a2⟩
end
end K31
set_option Elab.async false
set_option pp.maxSteps 1200
set_option linter.all false
set_option maxRecDepth 100000
set_option maxHeartbeats 4000000
namespace K31
open PySem L2 My
theorem done_snoc {ns ms : List Int} {an : Option Int} {mv : List Mv} {m : Mv} (hm : ∀ r, r ∈ ms ↔ (done ns [] none (mv.map clM)).1 r = true) (ha : an = (done ns [] none (mv.map clM)).2) : done ns ms an [clM m] = done ns [] none ((mv ++ [m]).map clM) := by
  have fe : (fun r => decide (r ∈ ms)) = (done ns [] none (mv.map clM)).1 := funext fun r => by
    rw [Bool.eq_iff_iff, decide_eq_true_iff]
    exact hm r
  rw [List.map_append]
  unfold done
  rw [List.foldl_append]
  show step ns (fun r => decide (r ∈ ms), an) (clM m) = step ns _ (clM m)
  rw [fe, ha]
  rfl
section
variable {w : World} {K : PySem.W.Frag} {mg : Str → Option Value} {base : Heap}
end
end K31
set_option Elab.async false
set_option pp.maxSteps 1200
set_option linter.all false
set_option maxRecDepth 100000
set_option maxHeartbeats 4000000
/-! The dict of tokens in the heap. -/
namespace K31
open PySem L2 My
def DkR (K : PySem.W.Frag) (H : Hp) : List (Key × V) → Dk → Prop
  | [], [] => True
  | kv :: r, p :: d => kv.1 = Sum.inl p.1 ∧ TkR K H kv.2 p.2 ∧ DkR K H r d
  | _, _ => False
theorem DkR.mono {K : PySem.W.Frag} {H H' : Hp} (e : ∀ v t, TkR K H v t → TkR K H' v t) : ∀ {kvs : List (Key × V)} {d : Dk}, DkR K H kvs d → DkR K H' kvs d
  | [], [], _ => trivial
  | [], _ :: _, h => h.elim
  | _ :: _, [], h => h.elim
  | _ :: _, _ :: _, ⟨h1, h2, h3⟩ => ⟨h1, e _ _ h2, DkR.mono e h3⟩
theorem DkR.len {K : PySem.W.Frag} {H : Hp} : ∀ {kvs : List (Key × V)} {d : Dk}, DkR K H kvs d → kvs.length = d.length
  | [], [], _ => rfl
  | [], _ :: _, h => h.elim
  | _ :: _, [], h => h.elim
  | _ :: _, _ :: _, ⟨_, _, h3⟩ => by simp [h3.len]
theorem inl_iff {a b : Int} : ((Sum.inl a : Key) = Sum.inl b) ↔ a = b := ⟨fun h => by injection h, fun h => by rw [h]⟩
theorem DkR.get {K : PySem.W.Frag} {H : Hp} (i : Int) : ∀ {kvs : List (Key × V)} {d : Dk}, DkR K H kvs d → (valV kvs (Sum.inl i) = none ∧ getT d i = none) ∨ ∃ v t, valV kvs (Sum.inl i) = some v ∧ getT d i = some t ∧ TkR K H v t
  | [], [], _ => .inl ⟨rfl, rfl⟩
  | [], _ :: _, h => h.elim
  | _ :: _, [], h => h.elim
  | kv :: r, p :: d, ⟨h1, h2, h3⟩ => by
    by_cases c : p.1 = i
    · refine .inr ⟨kv.2, p.2, valV_pos (by rw [h1, c]), ?_, h2⟩
      unfold getT
      simp [List.find?_cons, c]
    · have n1 : valV (kv :: r) (Sum.inl i) = valV r (Sum.inl i) := valV_neg (by rw [h1, inl_iff]; exact c)
      have n2 : getT (p :: d) i = getT d i := by
        unfold getT
        simp [List.find?_cons, c]
      rw [n1, n2]
      exact h3.get i
theorem DkR.any {K : PySem.W.Frag} {H : Hp} (i : Int) : ∀ {kvs : List (Key × V)} {d : Dk}, DkR K H kvs d → (kvs.any fun kv => decide (kv.1 = (Sum.inl i : Key))) = d.any fun p => decide (p.1 = i)
  | [], [], _ => rfl
  | [], _ :: _, h => h.elim
  | _ :: _, [], h => h.elim
  | kv :: r, p :: d, ⟨h1, h2, h3⟩ => by
    rw [List.any_cons, List.any_cons, h3.any i, h1]
    congr 1
    rw [Bool.eq_iff_iff, decide_eq_true_iff, decide_eq_true_iff, inl_iff]
theorem DkR.map {K : PySem.W.Frag} {H : Hp} {i : Int} {v : V} {t : List Int} (ht : TkR K H v t) : ∀ {kvs : List (Key × V)} {d : Dk}, DkR K H kvs d → DkR K H (kvs.map fun kv => if kv.1 = Sum.inl i then (kv.1, v) else kv) (d.map fun p => if p.1 = i then (p.1, t) else p)
  | [], [], _ => trivial
  | [], _ :: _, h => h.elim
  | _ :: _, [], h => h.elim
  | kv :: r, p :: d, ⟨h1, h2, h3⟩ => by
    rw [List.map_cons, List.map_cons]
    by_cases c : p.1 = i
    · have c' : kv.1 = Sum.inl i := by rw [h1, c]
      rw [if_pos c, if_pos c']
      exact ⟨h1, ht, DkR.map ht h3⟩
    · have c' : ¬ kv.1 = Sum.inl i := by rw [h1, inl_iff]; exact c
      rw [if_neg c, if_neg c']
      exact ⟨h1, h2, DkR.map ht h3⟩
theorem DkR.snoc {K : PySem.W.Frag} {H : Hp} {i : Int} {v : V} {t : List Int} (ht : TkR K H v t) : ∀ {kvs : List (Key × V)} {d : Dk}, DkR K H kvs d → DkR K H (kvs ++ [(Sum.inl i, v)]) (d ++ [(i, t)])
  | [], [], _ => ⟨rfl, ht, trivial⟩
  | [], _ :: _, h => h.elim
  | _ :: _, [], h => h.elim
  | _ :: _, _ :: _, ⟨h1, h2, h3⟩ => ⟨h1, h2, DkR.snoc ht h3⟩
theorem DkR.put {K : PySem.W.Frag} {H : Hp} {i : Int} {v : V} {t : List Int} (ht : TkR K H v t) {kvs : List (Key × V)} {d : Dk} (h : DkR K H kvs d) : DkR K H (putK kvs (Sum.inl i) v) (putT d i t) := by
  unfold putK putT
  rw [h.any i]
  split
  · exact h.map ht
  · exact h.snoc ht
theorem DkR.row {K : PySem.W.Frag} {H : Hp} : ∀ {kvs : List (Key × V)} {d : Dk}, DkR K H kvs d → ∀ {i : Nat} {k : Key} {v : V}, kvs[i]? = some (k, v) → ∃ p, d[i]? = some p ∧ k = Sum.inl p.1
  | [], [], _, _, _, _, h => by cases h
  | [], _ :: _, h, _, _, _, _ => h.elim
  | _ :: _, [], h, _, _, _, _ => h.elim
  | kv :: r, p :: d, ⟨h1, h2, h3⟩, 0, k, v, e => by
    cases e
    exact ⟨p, rfl, h1⟩
  | kv :: r, p :: d, ⟨h1, h2, h3⟩, i + 1, k, v, e => h3.row (i := i) (by simpa using e)
theorem get_nodup {i : Nat} {p : Int × List Int} : ∀ {d : Dk}, (d.map (·.1)).Nodup → d[i]? = some p → getT d p.1 = some p.2
  | [], _, h => by cases h
  | q :: d, nd, h => by
    rw [List.map_cons, List.nodup_cons] at nd
    unfold getT
    cases i with
    | zero =>
      cases h
      simp [List.find?_cons]
    | succ i =>
      have h : d[i]? = some p := by simpa using h
      have hm : p.1 ∈ d.map (·.1) := List.mem_map.mpr ⟨p, List.mem_of_getElem? h, rfl⟩
      have hn : ¬ q.1 = p.1 := fun z => nd.1 (by rw [z]; exact hm)
      have ih := get_nodup nd.2 h
      unfold getT at ih
      simpa [List.find?_cons, hn] using ih
/-- unlocked again: all as it was -/
theorem lock_back {H HL H' : Hp} {D : Addr} {u : HO} (x : Exj D H HL) (e : Ex HL H') (h : H D = some u) : Ex H (upd H' D u) := fun b o hb => by
  by_cases z : b = D
  · rw [z, upd_same, ← hb, z, h]
  · rw [upd_ne z]
    exact e _ _ (x _ _ z hb)
theorem cl_mv {K : PySem.W.Frag} {H : Hp} {us : List V} {mv : List Mv} (h : AllR (IsCl K H) us (mv.map clM)) : AllR (MvR K H) us mv := ⟨by rw [h.1, List.length_map], fun i v m h1 h2 => h.2 i v (clM m) h1 (by rw [List.getElem?_map, h2]; rfl)⟩
theorem mv_cls {K : PySem.W.Frag} {H : Hp} {us : List V} {p : List Mv} (h : AllR (MvR K H) us p) : Cls K H us (p.map clM) := ⟨by rw [List.length_map]; exact h.1, fun i v c h1 h2 => by
  obtain ⟨m, hm, hr⟩ := h.get h1
  rw [List.getElem?_map, hm] at h2
  cases h2
  exact hr⟩
/-- the anchor stands in the list, once something was clicked -/
theorem anc_in {ns : List Int} (nd : ns.Nodup) : ∀ (mv : List Mv) (st : State), (∀ m ∈ mv, m.2 < ns.length) → (∀ n, st.2 = some n → n ∈ ns) → (∀ n, ((mv.map clM).foldl (step ns) st).2 = some n → n ∈ ns) ∧ (mv ≠ [] ∨ st.2.isSome = true → ((mv.map clM).foldl (step ns) st).2.isSome = true)
  | [], st, _, h => ⟨h, fun z => z.elim (fun y => absurd rfl y) id⟩
  | m :: mv, (f, an), ok, h => by
    have hm := ok m List.mem_cons_self
    obtain ⟨_, _, _, g4⟩ := step_gen nd f an (b := m.1) hm
    have g4 : (step ns (f, an) (clM m)).2 = if m.1 = true ∧ (posA ns an).isSome = true then an else some (rowAt ns (m.2 : Nat)) := g4
    have both : (∀ n, (step ns (f, an) (clM m)).2 = some n → n ∈ ns) ∧ (step ns (f, an) (clM m)).2.isSome = true := by
      by_cases c : m.1 = true ∧ (posA ns an).isSome = true
      · rw [if_pos c] at g4
        rw [g4]
        refine ⟨h, ?_⟩
        cases an with
        | none => exact c.2
        | some n => rfl
      · rw [if_neg c] at g4
        rw [g4]
        refine ⟨fun n z => ?_, rfl⟩
        cases z
        exact List.mem_of_getElem? (get_row hm)
    obtain ⟨i1, i2⟩ := anc_in nd mv (step ns (f, an) (clM m)) (fun x hx => ok x (List.mem_cons_of_mem _ hx)) both.1
    exact ⟨i1, fun _ => i2 (.inr both.2)⟩
theorem anc_last {ns : List Int} (nd : ns.Nodup) {mv : List Mv} (ok : ∀ m ∈ mv, m.2 < ns.length) (h : mv ≠ []) : ∃ n, n ∈ ns ∧ (done ns [] none (mv.map clM)).2 = some n := by
  obtain ⟨h1, h2⟩ := anc_in nd mv (fun r => decide (r ∈ ([] : List Int)), none) ok fun n z => nomatch z
  have := h2 (.inl h)
  obtain ⟨n, hn⟩ := Option.isSome_iff_exists.mp this
  exact ⟨n, h1 n hn, hn⟩
/-- halving -/
theorem half_step {lo hi ix : Int} {i : Nat} (l : lo ≤ ix) (h : ix ≤ hi) (lt : lo < hi) (b : (hi - lo) * 2 ^ i ≤ 2 ^ 100) : ((ix ≤ (lo + hi) / 2 → ((lo + hi) / 2 - lo) * 2 ^ (i + 1) ≤ 2 ^ 100) ∧ ((lo + hi) / 2 < ix → (hi - ((lo + hi) / 2 + 1)) * 2 ^ (i + 1) ≤ 2 ^ 100)) := by
  have p : (0 : Int) ≤ 2 ^ i := Int.le_of_lt (Int.pow_pos (by decide))
  have key : ∀ x : Int, x * 2 ≤ hi - lo → x * 2 ^ (i + 1) ≤ 2 ^ 100 := fun x hx => by
    have e : x * 2 ^ (i + 1) = (x * 2) * 2 ^ i := by
      rw [Int.pow_succ, Int.mul_assoc, Int.mul_comm 2 (2 ^ i)]
    rw [e]
    exact Int.le_trans (Int.mul_le_mul_of_nonneg_right hx p) b
  exact ⟨fun _ => key _ (by omega), fun _ => key _ (by omega)⟩
theorem half_same {lo hi : Int} {i : Nat} (h : lo = hi) : (hi - lo) * 2 ^ (i + 1) ≤ 2 ^ 100 := by
  rw [h, Int.sub_self, Int.zero_mul]
  decide
theorem half_end {lo hi : Int} (l : lo ≤ hi) (b : (hi - lo) * 2 ^ 200 ≤ 2 ^ 100) : lo = hi := by
  by_cases z : lo = hi
  · exact z
  · exfalso
    have h1 : (1 : Int) ≤ hi - lo := by omega
    have h2 := Int.mul_le_mul_of_nonneg_right h1 (show (0 : Int) ≤ 2 ^ 200 by decide)
    rw [Int.one_mul] at h2
    have h3 := Int.le_trans h2 b
    exact absurd h3 (by decide)
end K31
set_option Elab.async false
set_option pp.maxSteps 1200
set_option linter.all false
set_option maxRecDepth 100000
set_option maxHeartbeats 4000000
namespace K31
open PySem L2 My
structure NdOk (f : Int → Bool) (dom ks : List Int) : Prop where
  nd : ks.Nodup
  is : ∀ r, r ∉ ks → f r = false
  dm : ∀ r ∈ ks, r ∈ dom
abbrev bb (f : Int → Bool) : Int → V := fun n => .bl (f n)
theorem putK_bb (f : Int → Bool) (k : Int) (b : Bool) (ks : List Int) : putK (kvsOf ks (bb f)) (Sum.inl k) (.bl b) = kvsOf (if k ∈ ks then ks else ks ++ [k]) (bb fun n => if n = k then b else f n) := by
  rw [putK_kvs]
  exact kvs_congr fun n _ => by
    show (if n = k then V.bl b else .bl (f n)) = .bl (if n = k then b else f n)
    split <;> rfl
theorem NdOk.put {f : Int → Bool} {dom ks : List Int} (h : NdOk f dom ks) {k : Int} (b : Bool) (hk : k ∈ dom) : NdOk (fun n => if n = k then b else f n) dom (if k ∈ ks then ks else ks ++ [k]) :=
  ⟨put_nodup h.nd k, fun r hr => by
    have z1 : r ∉ ks := fun z => hr (mem_put.mpr (.inl z))
    have z2 : ¬ r = k := fun z => hr (mem_put.mpr (.inr z))
    show (if r = k then b else f r) = false
    rw [if_neg z2]
    exact h.is r z1, fun r hr => by
    rcases mem_put.mp hr with z | z
    · exact h.dm r z
    · exact z ▸ hk⟩
theorem NdOk.get {f : Int → Bool} {dom ks : List Int} (h : NdOk f dom ks) (k : Int) : (valV (kvsOf ks (bb f)) (Sum.inl k)).getD (.bl false) = .bl (f k) := by
  rw [valV_kvs]
  by_cases z : k ∈ ks
  · rw [if_pos z]
    rfl
  · rw [if_neg z]
    show V.bl false = .bl (f k)
    rw [h.is k z]
theorem NdOk.big {f : Int → Bool} {ms ns ks : List Int} (h : NdOk f (ms ++ ns) ks) (h1 : ms.length ≤ 1000) (h2 : ns.length ≤ 1000) (g : Int → V) : (kvsOf ks g).length < sizeLine := by
  rw [kvs_len]
  have := nodup_len h.nd h.dm
  rw [List.length_append] at this
  exact Nat.lt_of_le_of_lt (show ks.length ≤ 2000 by omega) (by decide)
theorem merge_tt : ∀ (l done : List Int), (done ++ l).Nodup → mergeK (kvsOf done tt) (kvsOf l tt) = kvsOf (done ++ l) tt
  | [], done, _ => by
    rw [List.append_nil]
    rfl
  | x :: l, done, h => by
    show mergeK (putK (kvsOf done tt) (Sum.inl x) (.bl true)) (kvsOf l tt) = _
    have hx : x ∉ done := fun z => by
      have := (List.nodup_append.mp h).2.2 x z x List.mem_cons_self
      exact this rfl
    have e : putK (kvsOf done tt) (Sum.inl x) (.bl true) = kvsOf (done ++ [x]) tt := kvs_snoc done tt x hx
    have h' : (done ++ [x] ++ l).Nodup := by
      rw [List.append_assoc]
      exact h
    rw [e, merge_tt l (done ++ [x]) h', List.append_assoc]
    rfl
theorem span_get {ns : List Int} {a b i : Nat} (h : i < max a b + 1 - min a b) : (span ns a b)[i]? = ns[min a b + i]? := by
  unfold span
  rw [List.getElem?_take, if_pos h, List.getElem?_drop]
theorem span_len {ns : List Int} {a b : Nat} (ha : a < ns.length) (hb : b < ns.length) : (span ns a b).length = max a b + 1 - min a b := by
  unfold span
  rw [List.length_take, List.length_drop]
  omega
def sp__law_done (K : PySem.W.Frag) : Sp := fun vs H Q _ => ∃ (a m b : Addr) (ns ms : List Int) (xs : List V) (cs : List Cl) (an : Option Int), vs = [.ref a, .ref m, anV an, .ref b] ∧ SqL K H a (ns.map V.int) ∧ SqL K H m (ms.map V.int) ∧ SqL K H b xs ∧ ns.Nodup ∧ ns.length ≤ 1000 ∧ ms.Nodup ∧ ms.length ≤ 1000 ∧ Cls K H xs cs ∧ ClOk ns.length cs ∧
  ∀ (p q : Addr) (H' : Hp) (rs : List Int), H p = none → Ex H H' → p ≠ q → H q = none → H' q = some (.tup [.ref p, anV (done ns ms an cs).2]) → H' p = some (.lst (rs.map V.int)) → rs.Pairwise (· < ·) → (∀ r, r ∈ rs ↔ (done ns ms an cs).1 r = true) → (∀ r ∈ rs, r ∈ ms ++ ns) → Q (.ref q) H'
def DInv (a m b nd : Addr) (ns ms : List Int) (st : State) (H1 : Hp) (σ : L2.St) (H' : Hp) : Prop :=
  ∃ w5 w6 w7 w8 w9 w10 ks, σ = [some (.ref a), some (.ref m), some (anV st.2), some (.ref b), some (.ref nd), w5, w6, w7, w8, w9, w10] ∧ Ex H1 H' ∧ H' nd = some (.dK (kvsOf ks (bb st.1))) ∧ NdOk st.1 (ms ++ ns) ks
section
variable {P : Program} {w : World} {K : PySem.W.Frag} {mg : Str → Option Value} {base : Heap}
theorem ok__law_done (T : Txt K mg) : FnOk P w K mg base CX0 1 T.a__law_done T.d__law_done ["_law_there", "_law_marks_here", "_law_anchor", "_law_clicks_here"] (sp__law_done K) := by
  refine T.f__law_done.ok sc__law_done (fun vs H Q E h => ?_) (fun cdv A outer s H vs Q E hr h => ?_)
  · obtain ⟨a, m, b, ns, ms, xs, cs, an, rfl, _⟩ := h
    rfl
  · obtain ⟨a, m, b, ns, ms, xs, cs, an, rfl, ha, hm, hb, nd', hl, nm, hlm, hc, ok, k⟩ := h
    refine ⟨_, (pss_cons (ps_set (i := 4) sc__law_done.nd rfl (by first | exact Or.inl rfl | exact Or.inr rfl) (pe_callTy (call_dictP rfl) (by rfl) T.z_dict (by decide +kernel) (pa_cons (pe_lc (own := [("_law_row", 7)]) (g := gName 7) (by rfl) sc__law_done.nd (pi_list (pv 1)) (blkOk_by (own := [("_law_row", 7)]) (N := ["_law_there", "_law_marks_here", "_law_anchor", "_law_clicks_here", "_law_now", "_law_word", "_law_position", "_law_row", "_law_at", "_law_wanted", "_law_place"]) (sc := (defScope s__law_done)) (by decide +kernel)) (fun _ _ _ _ _ => (pg_name (i := 7) sc__law_done.nd rfl (by first | exact Or.inl rfl | exact Or.inr rfl))) (fun _ _ _ _ _ => pts_nil) (fun _ _ _ _ _ => (pe_tupG (pa_cons (pv 7) (pa_cons pe_bl pa_nil))))) pa_nil))) (pss_cons (ps_for PassesOwn.never rfl (pi_list (pv 3)) (pg_tup rfl (pgs_cons (pg_name (i := 5) sc__law_done.nd rfl (by first | exact Or.inl rfl | exact Or.inr rfl)) (pgs_cons (pg_name (i := 6) sc__law_done.nd rfl (by first | exact Or.inl rfl | exact Or.inr rfl)) pgs_nil))) (pss_cons (ps_set (i := 7) sc__law_done.nd rfl (by first | exact Or.inl rfl | exact Or.inr rfl) (pe_ix ix_list (pv 0) (pv 6) (fun _ _ => rfl))) (pss_one (ps_if (pt_cut (PW.pt (pw_and (pt_cmpR op_eq (pv 5) pe_str (nomark _)) (pw_and1 (pt_cmpR op_in_seq (pv 2) (pv 0) (by rfl)))))) (pss_cons (ps_set (i := 8) sc__law_done.nd rfl (by first | exact Or.inl rfl | exact Or.inr rfl) (pe_bm PySem.F.plainAttrs_list PySem.F.slot_list_index PySem.F.type_list_index mt_index (pv 0) (pa_cons (pv 2) pa_nil))) (pss_cons (ps_set (i := 9) sc__law_done.nd rfl (by first | exact Or.inl rfl | exact Or.inr rfl) (pe_dget2 (hu_of hr) (pv 4) (pv 2) pe_bl ⟨rfl, rfl, rfl, rfl⟩)) (pss_one (ps_for PassesOwn.never rfl (pi_range2 (by rfl) T.z_range (pa_cons (pe_callB (call_min2 rfl) (by rfl) T.z_min (by decide +kernel) (pa_cons (pv 8) (pa_cons (pv 6) pa_nil))) (pa_cons (pe_op op_add (pe_callB (call_max2 rfl) (by rfl) T.z_max (by decide +kernel) (pa_cons (pv 8) (pa_cons (pv 6) pa_nil))) pe_int) pa_nil))) (pg_name (i := 10) sc__law_done.nd rfl (by first | exact Or.inl rfl | exact Or.inr rfl)) (pss_one (ps_dput (hu_of hr) (pv 4) (pe_ix ix_list (pv 0) (pv 10) (fun _ _ => rfl)) (pv 9) rfl)))))) (pss_cons (ps_dput (hu_of hr) (pv 4) (pv 7) (pe_not (pe_dget2 (hu_of hr) (pv 4) (pv 7) pe_bl ⟨rfl, rfl, rfl, rfl⟩)) rfl) (pss_one (ps_set (i := 2) sc__law_done.nd rfl (by first | exact Or.inl rfl | exact Or.inr rfl) (pv 7)))))))) (pss_one (ps_ret (pe_tupG (pa_cons (pe_lc (own := [("_law_row", 7)]) (g := gName 7) (by rfl) sc__law_done.nd (pi_list (pe_callB (cr_sortedD rfl) (by rfl) T.z_sorted (by decide +kernel) (pa_cons (pv 4) pa_nil))) (blkOk_by (own := [("_law_row", 7)]) (N := ["_law_there", "_law_marks_here", "_law_anchor", "_law_clicks_here", "_law_now", "_law_word", "_law_position", "_law_row", "_law_at", "_law_wanted", "_law_place"]) (sc := (defScope s__law_done)) (by decide +kernel)) (fun _ _ _ _ _ => (pg_name (i := 7) sc__law_done.nd rfl (by first | exact Or.inl rfl | exact Or.inr rfl))) (fun _ _ _ _ _ => (pts_one (pt_val (pe_dget (hu_of hr) (pv 4) (pv 7) (fun _ _ => rfl))))) (fun _ _ _ _ _ => (pv 7))) (pa_cons (pv 2) pa_nil))))))), ?_⟩
    -- _law_now = dict([(row, True) for row in marks])
    refine ⟨_, rfl, m, rfl, ⟨_, hm⟩, fun D hD => lc_it (walk_list (K := K) (a := m) (xs := ms.map V.int)) (fun i H' => ∃ ps : List Addr, Ex H H' ∧ H' D = some (.lst (ps.map V.ref)) ∧ ps.length = i ∧ Paired (fun p kv => SqT K H' p [kV kv.1, kv.2]) ps (kvsOf (ms.take i) tt)) ⟨[], Evl.Ex.new hD, upd_same, rfl, .nil⟩ (fun i H' _ ⟨_, z, _⟩ => Evl.ex_l z hm) ?_ ?_⟩
    · rintro i v H2 H3 hi ⟨ps, e2, d2, hps, pr⟩ ⟨rfl, hx⟩
      obtain ⟨t, ht, rfl⟩ := mapI_get hx
      rw [List.length_map] at hi
      refine ⟨rfl, ?_⟩
      show _
      refine ⟨_, rfl, (by show 2 ≤ sizeLine; decide), fun q H4 nq e4 h4 => ?_⟩
      refine ⟨_, e4 _ _ d2, ?_, ps ++ [q], Evl.Ex.mut (e2.trans e4) hD, ?_, by simp [hps], ?_⟩
      · rw [List.length_map, hps]
        exact Nat.lt_of_lt_of_le (show i < 1000 by omega) (by decide)
      · rw [upd_same, List.map_append]
        rfl
      · have up : ∀ {p : Addr} {ys : List V}, SqT K H4 p ys → SqT K (upd H4 D (.lst (ps.map V.ref ++ [.ref q]))) p ys := fun {p ys} h => by
          have d4 := e4 _ _ d2
          rcases h with (h | ⟨o, h⟩) | h
          · refine .inl (.inl ?_)
            rw [upd_ne (fun z => by rw [z, d4] at h; cases h)]
            exact h
          · refine .inl (.inr ⟨o, ?_⟩)
            rw [upd_ne (fun z => by rw [z, d4] at h; cases h)]
            exact h
          · exact .inr h
        rw [take_snoc ht]
        unfold kvsOf
        rw [List.map_append]
        exact Paired.snoc (Paired.mapP pr fun _ _ z => up (Evl.ex_t e4 z)) (up (sqT h4))
    · rintro H2 ⟨ps, e2, d2, hps, pr⟩
      rw [List.length_map, List.take_length] at pr
      refine ⟨D, ps, _, rfl, sqI d2, pr, fun nd hnd => ?_⟩
      have em : mergeK [] (kvsOf ms tt) = kvsOf ms (bb fun r => decide (r ∈ ms)) := by
        refine (merge_tt ms [] nm).trans ?_
        rw [List.nil_append]
        exact kvs_congr fun n hn => by
          show V.bl true = .bl (decide (n ∈ ms))
          rw [decide_eq_true hn]
      rw [em]
      have e3 : Ex H2 (upd H2 nd (.dK (kvsOf ms (bb fun r => decide (r ∈ ms))))) := Evl.Ex.new hnd
      have d3 : upd H2 nd (.dK (kvsOf ms (bb fun r => decide (r ∈ ms)))) nd = some (.dK (kvsOf ms (bb fun r => decide (r ∈ ms)))) := upd_same
      generalize upd H2 nd (.dK (kvsOf ms (bb fun r => decide (r ∈ ms)))) = H3 at e3 d3 ⊢
      -- for word, position in clicks:
      refine ⟨_, rfl, b, rfl, ⟨_, Evl.ex_l (e2.trans e3) hb⟩, for_list (K := K) (a := b) (xs := xs) (fun i σ H' => DInv a m b nd ns ms ((cs.take i).foldl (step ns) (fun r => decide (r ∈ ms), an)) H2 σ H') ?_ ?_ ?_ ?_⟩
      · exact ⟨_, _, _, _, _, _, ms, rfl, e3, d3, nm, fun r hr => decide_eq_false hr, fun r hr => List.mem_append_left _ hr⟩
      · rintro i σ H' _ ⟨_, _, _, _, _, _, _, _, e, _⟩
        exact Evl.ex_l (e2.trans e) hb
      · rintro i x σ H' hi ⟨w5, w6, w7, w8, w9, w10, ks, rfl, e, d, fok⟩
        obtain ⟨c, q, hci, rfl, hq⟩ := (hc.ex (e2.trans e)).get hi
        have cok := ok c (List.mem_of_getElem? hci)
        rw [foldl_take hci]
        generalize (cs.take i).foldl (step ns) (fun r => decide (r ∈ ms), an) = st at d fok ⊢
        obtain ⟨f, an'⟩ := st
        obtain ⟨word, pos⟩ := c
        change NdOk f (ms ++ ns) ks at fok
        change H' nd = some (.dK (kvsOf ks (bb f))) at d
        have p0 : 0 ≤ pos := cok.2.1
        have p1 : pos < ns.length := cok.2.2
        refine ⟨_, _, rfl, hq, rfl, _, _, rfl, _, _, rfl, rfl, ?_⟩
        have ha' := Evl.ex_l (e2.trans e) ha
        refine ⟨_, rfl, _, rfl, _, _, _, _, rfl, rfl, ha', at_row p0 p1, ?_⟩
        refine ⟨fun b H'' => H'' = H' ∧ b = (rng ns word an').isSome, ?_, ?_⟩
        · refine ⟨_, rfl, rfl, _, rfl, ?_⟩
          rw [rng_isSome]
          refine ifB (fun c => ?_) (fun c => ⟨rfl, ?_⟩)
          · have c' : V.str word = V.str "range" := of_decide_eq_true c
            injection c' with c'
            refine ⟨_, rfl, _, rfl, a, _, rfl, .inl ha', ?_, flatI ns, _, rfl, rfl, ?_⟩
            · cases an' <;> rfl
            · show inV (anV an') (ns.map V.int) = _
              rw [decide_eq_true c', Bool.true_and]
              cases an' with
              | none => exact inV_non ns
              | some n => exact inV_int n ns
          · have c' : ¬ word = "range" := fun z => by
              have := of_decide_eq_false c
              exact this (by rw [z])
            rw [decide_eq_false c', Bool.false_and]
        · rintro bv H'' ⟨rfl, rfl⟩
          cases hrng : rng ns word an' with
          | none =>
            rw [step_cl hrng]
            have rm := row_mem p0 p1
            refine iteF ?_
            refine ⟨_, rfl, _, rfl, .inl ⟨_, .inl d⟩, _, rfl, _, .inl ⟨_, Sum.inl (rowAt ns pos), .inl d, rfl, rfl⟩, ?_⟩
            rw [fok.get]
            refine ⟨_, rfl, _, rfl, _, rfl, _, _, rfl, .inl ⟨_, Sum.inl (rowAt ns pos), d, rfl, fok.big hlm hl _, rfl⟩, ?_⟩
            have ef : (fun n => if n = rowAt ns pos then !f (rowAt ns pos) else f n) = (fun r => if r = rowAt ns pos then !f r else f r) := funext fun r => by
              by_cases z : r = rowAt ns pos
              · rw [if_pos z, if_pos z, z]
              · rw [if_neg z, if_neg z]
            rw [putK_bb]
            have nx := fok.put (!f (rowAt ns pos)) (List.mem_append_right ms rm)
            rw [ef] at nx ⊢
            exact ⟨_, rfl, _, _, _, _, _, _, _, rfl, Evl.Ex.mut e hnd, upd_same, nx⟩
          | some n =>
            obtain ⟨rfl, rfl, nm'⟩ := rng_some hrng
            rw [step_rng hrng]
            have ilt : ns.idxOf n < ns.length := List.idxOf_lt_length_of_mem nm'
            refine iteT ?_
            have gn : (ns.map V.int)[ns.idxOf n]? = some (V.int n) := by
              rw [List.getElem?_map, List.getElem?_eq_getElem ilt, List.getElem_idxOf]
              rfl
            refine ⟨_, rfl, .inl ⟨rfl, _, ha'⟩, _, rfl, a, _, _, ns.idxOf n, V.int n, rfl, rfl, ha', rfl, flatI ns, gn, (by show (n == n) = true; simp), ?_, ?_⟩
            · intro k' z' hk' hz'
              obtain ⟨t, ht, rfl⟩ := mapI_get hz'
              show (t == n) = false
              rw [beq_eq_false_iff_ne]
              intro e'
              subst e'
              have := idx_of nd' ht
              omega
            · refine ⟨_, rfl, _, rfl, .inl ⟨_, .inl d⟩, _, rfl, _, .inl ⟨_, Sum.inl n, .inl d, rfl, rfl⟩, ?_⟩
              rw [fok.get]
              have elo : (if pos < (ns.idxOf n : Int) then pos else (ns.idxOf n : Int)) = ((min (ns.idxOf n) pos.toNat : Nat) : Int) := by split <;> omega
              have ehi : (if pos > (ns.idxOf n : Int) then pos else (ns.idxOf n : Int)) = ((max (ns.idxOf n) pos.toNat : Nat) : Int) := by split <;> omega
              have pl : pos.toNat < ns.length := by omega
              refine ⟨_, rfl, _, rfl, _, _, rfl, _, rfl, _, rfl, _, _, rfl, _, _, rfl, rfl, _, _, rfl, ?_, ?_⟩
              · show _ ∧ _ ∧ _ ∧ _
                rw [elo, ehi]
                omega
              have en : ((if pos > (ns.idxOf n : Int) then pos else (ns.idxOf n : Int)) + 1 - (if pos < (ns.idxOf n : Int) then pos else (ns.idxOf n : Int))).toNat = (span ns (ns.idxOf n) pos.toNat).length := by
                rw [elo, ehi, span_len ilt pl]
                omega
              have smem : ∀ r ∈ span ns (ns.idxOf n) pos.toNat, r ∈ ns := fun r hr => List.mem_of_mem_drop (List.mem_of_mem_take hr)
              refine for_range (lo := (if pos < (ns.idxOf n : Int) then pos else (ns.idxOf n : Int))) (n := ((if pos > (ns.idxOf n : Int) then pos else (ns.idxOf n : Int)) + 1 - (if pos < (ns.idxOf n : Int) then pos else (ns.idxOf n : Int))).toNat) (fun j σ' H3 => ∃ v10 ks', σ' = [some (.ref a), some (.ref m), some (.int n), some (.ref b), some (.ref nd), some (.str "range"), some (.int pos), some (.int (rowAt ns pos)), some (.int (ns.idxOf n : Nat)), some (.bl (f n)), v10] ∧ Ex H2 H3 ∧ H3 nd = some (.dK (kvsOf ks' (bb fun r => if r ∈ (span ns (ns.idxOf n) pos.toNat).take j then f n else f r))) ∧ NdOk (fun r => if r ∈ (span ns (ns.idxOf n) pos.toNat).take j then f n else f r) (ms ++ ns) ks') ?_ ?_ ?_
              · exact ⟨_, ks, rfl, e, d, fok⟩
              · rintro j σ' H3 hj ⟨v10, ks', rfl, e3, d3, f3⟩
                rw [en] at hj
                have ht : (span ns (ns.idxOf n) pos.toNat)[j]? = some ((span ns (ns.idxOf n) pos.toNat)[j]'hj) := List.getElem?_eq_getElem hj
                generalize (span ns (ns.idxOf n) pos.toNat)[j]'hj = t at ht
                have tm := smem t (List.mem_of_getElem? ht)
                have hg : atI (ns.map V.int) ((if pos < (ns.idxOf n : Int) then pos else (ns.idxOf n : Int)) + j) = some (.int t) := by
                  rw [elo]
                  refine at_of (j := min (ns.idxOf n) pos.toNat + j) (by omega) ?_
                  rw [span_len ilt pl] at hj
                  rw [span_get hj] at ht
                  rw [List.getElem?_map, ht]
                  rfl
                refine ⟨_, rfl, _, rfl, _, rfl, _, rfl, _, _, _, _, rfl, rfl, Evl.ex_l (e2.trans e3) ha, hg, _, _, rfl, .inl ⟨_, Sum.inl t, d3, rfl, f3.big hlm hl _, rfl⟩, ?_⟩
                rw [putK_bb]
                have nx := f3.put (f n) (List.mem_append_right ms tm)
                have ef : (fun r => if r = t then f n else if r ∈ (span ns (ns.idxOf n) pos.toNat).take j then f n else f r) = (fun r => if r ∈ (span ns (ns.idxOf n) pos.toNat).take (j + 1) then f n else f r) := funext fun r => by
                  rw [take_snoc ht]
                  by_cases z : r = t
                  · rw [if_pos z, if_pos (by simp [z])]
                  · rw [if_neg z]
                    by_cases z2 : r ∈ (span ns (ns.idxOf n) pos.toNat).take j
                    · rw [if_pos z2, if_pos (List.mem_append_left _ z2)]
                    · rw [if_neg z2, if_neg (by simp [z, z2])]
                rw [ef] at nx ⊢
                exact ⟨_, _, rfl, Evl.Ex.mut e3 hnd, upd_same, nx⟩
              · rintro σ' H3 ⟨v10, ks', rfl, e3, d3, f3⟩
                rw [en, List.take_length] at d3 f3
                exact ⟨_, _, _, _, _, _, ks', rfl, e3, d3, f3⟩
      · rintro σ H' ⟨w5, w6, w7, w8, w9, w10, ks, rfl, e, d, fok⟩
        have el : xs.length = cs.length := hc.1
        have ed : (cs.take xs.length).foldl (step ns) (fun r => decide (r ∈ ms), an) = done ns ms an cs := by
          rw [el, List.take_length]
          rfl
        rw [ed] at d fok ⊢
        have ks_len : ks.length ≤ 2000 := by
          have := nodup_len fok.nd fok.dm
          rw [List.length_append] at this
          omega
        refine ⟨_, rfl, nd, _, ks, rfl, d, kvs_keys ks _, fun rs hp hs S H4 nS e4 h4 => ?_⟩
        have nSd : S ≠ nd := fun z => by rw [z, d] at nS; cases nS
        refine ⟨S, rfl, ⟨_, sqI h4⟩, fun D' hD' => lc_it (walk_list (K := K) (a := S) (xs := rs.map V.int)) (fun i H5 => Ex H4 H5 ∧ H5 D' = some (.lst (((rs.take i).filter (done ns ms an cs).1).map V.int))) ⟨Evl.Ex.new hD', upd_same⟩ (fun i H5 _ z => sqI (z.1 _ _ h4)) ?_ ?_⟩
        · rintro i v H5 H6 hi ⟨e5, d5⟩ ⟨rfl, hx⟩
          obtain ⟨t, ht, rfl⟩ := mapI_get hx
          rw [List.length_map] at hi
          have tk : t ∈ ks := hp.mem_iff.mp (List.mem_of_getElem? ht)
          have dd := (e4.trans e5) _ _ d
          refine ⟨rfl, ?_⟩
          show _
          refine ⟨_, rfl, _, rfl, _, _, rfl, .inl ⟨_, Sum.inl t, .inl dd, rfl, by rw [valV_kvs, if_pos tk]⟩, _, rfl, ?_⟩
          rw [take_snoc ht, List.filter_append]
          refine ifB (fun c => ?_) (fun c => ?_)
          · refine ⟨_, rfl, _, d5, ?_, Evl.Ex.mut e5 hD', ?_⟩
            · rw [List.length_map]
              refine Nat.lt_of_le_of_lt (List.length_filter_le _ _) ?_
              rw [List.length_take]
              have := hp.length_eq
              exact Nat.lt_of_le_of_lt (show _ ≤ 2000 by omega) (by decide)
            · rw [upd_same, List.filter_cons, c, List.map_append]
              rfl
          · refine ⟨e5, ?_⟩
            rw [List.filter_cons, c, d5]
            simp
        · rintro H5 ⟨e5, d5⟩
          rw [List.length_map, List.take_length] at d5
          refine ⟨_, rfl, (by show 2 ≤ sizeLine; decide), fun q H6 nq e6 h6 => ?_⟩
          have eH : Ex H H4 := e2.trans (e.trans e4)
          refine k D' q H6 (rs.filter (done ns ms an cs).1) (Ex_back eH hD') (eH.trans (e5.trans e6)) (ne_of_none d5 nq) (Ex_back (eH.trans e5) nq) h6 (e6 _ _ d5) ?_ (fun r => ?_) (fun r hr => fok.dm r (hp.mem_iff.mp (List.mem_filter.mp hr).1))
          · exact (asc_of hp hs fok.nd).sublist List.filter_sublist
          · rw [List.mem_filter, hp.mem_iff]
            constructor
            · exact fun z => z.2
            · intro z
              refine ⟨?_, z⟩
              by_cases zz : r ∈ ks
              · exact zz
              · rw [fok.is r zz] at z
                cases z
end
end K31
set_option Elab.async false
set_option pp.maxSteps 1200
set_option linter.all false
set_option maxRecDepth 100000
set_option maxHeartbeats 4000000
namespace K31
open PySem L2 My
theorem flag_in {ns ms : List Int} {p : Nat} (h : p < ns.length) : (flagL ns ms).getD (p + 1) false = decide (ns.getD p 0 ∈ ms) := by
  unfold flagL
  rw [List.getD_eq_getElem?_getD, List.getElem?_append_left (by simp; omega), List.getElem?_append_right (by simp)]
  show ((ns.map fun r => decide (r ∈ ms))[p]?).getD false = _
  rw [List.getElem?_map, List.getD_eq_getElem?_getD, List.getElem?_eq_getElem h]
  rfl
theorem flag_out {ns ms : List Int} {p : Nat} (h : ns.length ≤ p) : (flagL ns ms).getD (p + 1) false = false := by
  unfold flagL
  rw [List.getD_eq_getElem?_getD, List.getElem?_append_right (by simp; omega)]
  simp only [List.length_append, List.length_map, List.length_cons, List.length_nil]
  by_cases e : p = ns.length
  · subst e
    rw [show ns.length + 1 - (0 + 1 + ns.length) = 0 by omega]
    rfl
  · rw [List.getElem?_eq_none (by simp; omega)]
    rfl
theorem at_nat {ns : List Int} {p : Nat} (h : p < ns.length) : atI (ns.map V.int) ((p : Nat) : Int) = some (.int (ns.getD p 0)) := by
  refine at_of (j := p) rfl ?_
  rw [List.getElem?_map, List.getD_eq_getElem?_getD, List.getElem?_eq_getElem h]
  rfl
def prB (ns ms : List Int) (p : Int) : Bool := !decide ((flagL ns ms).getD p.toNat false = (flagL ns ms).getD (p.toNat + 1) false)
def sp__law_borders (K : PySem.W.Frag) : Sp := fun vs H Q _ => ∃ (a m : Addr) (ns ms : List Int), vs = [.ref a, .ref m] ∧ SqL K H a (ns.map V.int) ∧ SqL K H m (ms.map V.int) ∧ ns.length ≤ 500 ∧ New (.lst ((bordersL ns ms).map V.int)) H Q
section
variable {w : World} {K : PySem.W.Frag} {mg : Str → Option Value} {base : Heap}
theorem ok__law_borders (T : Txt K mg) : FnOk PR w K mg base CX0 1 T.a__law_borders T.d__law_borders ["_law_there", "_law_marks_here"] (sp__law_borders K) := by
  refine T.f__law_borders.ok sc__law_borders (fun vs H Q E h => ?_) (fun cdv A outer s H vs Q E hr h => ?_)
  · obtain ⟨a, m, ns, ms, rfl, _⟩ := h
    rfl
  · obtain ⟨a, m, ns, ms, rfl, ha, hm, nl, k⟩ := h
    refine ⟨_, (pss_cons (ps_set (i := 2) sc__law_borders.nd rfl (by first | exact Or.inl rfl | exact Or.inr rfl) (pe_lstG pa_nil)) (pss_cons (ps_for PassesOwn.never rfl (pi_range1 (by rfl) T.z_range (pa_cons (pe_op op_add (pe_callB call_len_seq (by rfl) T.z_len PySem.boot_len (pa_cons (pv 0) pa_nil)) pe_int) pa_nil)) (pg_name (i := 3) sc__law_borders.nd rfl (by first | exact Or.inl rfl | exact Or.inr rfl)) (pss_cons (ps_cut (ps_set (i := 4) sc__law_borders.nd rfl (by first | exact Or.inl rfl | exact Or.inr rfl) (pe_and (pe_cmpR op_gt (pv 3) pe_int (nomark _)) (pe_one (pe_cmpR op_in_seq (pe_ix ix_list (pv 0) (pe_op op_sub (pv 3) pe_int) (fun _ _ => rfl)) (pv 1) (by rfl)))))) (pss_one (ps_if (pt_cut (pt_cmpR op_ne (pv 4) (pe_and (pe_cmpR op_lt (pv 3) (pe_callB call_len_seq (by rfl) T.z_len PySem.boot_len (pa_cons (pv 0) pa_nil)) (nomark _)) (pe_one (pe_cmpR op_in_seq (pe_ix ix_list (pv 0) (pv 3) (fun _ _ => rfl)) (pv 1) (by rfl)))) (nomark _))) (pss_one (ps_expr (pe_bm PySem.F.plainAttrs_list PySem.F.slot_list_append PySem.F.type_list_append mt_append (pv 2) (pa_cons (pv 3) pa_nil)))) pss_nil)))) (pss_one (ps_ret (pv 2))))), ?_⟩
    refine ⟨(by show 0 ≤ sizeLine; decide), fun F H1 nF e1 hF => ?_⟩
    refine ⟨_, rfl, _, _, rfl, .inl (Evl.ex_l e1 ha), _, _, rfl, rfl, _, rfl, (by rw [List.length_map]; omega), (by rw [List.length_map]; omega), ?_⟩
    rw [List.length_map]
    refine for_range (lo := 0) (n := (((ns.length : Nat) : Int) + 1).toNat) (fun i σ H' => ∃ v3 v4, σ = [some (.ref a), some (.ref m), some (.ref F), v3, v4] ∧ Ex H H' ∧ H' F = some (.lst ((((List.range i).map fun i => (0 : Int) + ((i : Nat) : Int)).filter (prB ns ms)).map V.int))) ⟨_, _, rfl, e1, hF⟩ ?_ ?_
    · rintro i σ H2 hi ⟨v3, v4, rfl, e2, d2⟩
      have hi : i < ns.length + 1 := by omega
      have ei : ((0 : Int) + (i : Int)) = ((i : Nat) : Int) := by omega
      rw [ei]
      refine ⟨fun σ' H' => σ' = [some (.ref a), some (.ref m), some (.ref F), some (.int ((i : Nat) : Int)), some (.bl ((flagL ns ms).getD i false))] ∧ H2 = H', ?_, ?_⟩
      · refine ⟨_, rfl, _, _, rfl, rfl, _, rfl, ?_⟩
        refine ifB (fun c => ?_) (fun c => ?_)
        · have c : ((i : Nat) : Int) > 0 := of_decide_eq_true c
          obtain ⟨q, rfl⟩ : ∃ q, i = q + 1 := ⟨i - 1, by omega⟩
          have e3 : (((q + 1 : Nat) : Int) - 1) = ((q : Nat) : Int) := by omega
          refine ⟨_, rfl, _, rfl, _, _, rfl, rfl, _, _, _, _, rfl, rfl, Evl.ex_l e2 ha, (by rw [e3]; exact at_nat (by omega)), _, rfl, _, _, rfl, .inl (Evl.ex_l e2 hm), rfl, flatI _, ?_⟩
          rw [inV_int, ← flag_in (by omega)]
          exact ⟨rfl, rfl⟩
        · have c : ¬ ((i : Nat) : Int) > 0 := of_decide_eq_false c
          obtain rfl : i = 0 := by omega
          exact ⟨rfl, rfl⟩
      rintro σ' H' ⟨rfl, rfl⟩
      refine ⟨fun b H' => b = prB ns ms ((i : Nat) : Int) ∧ H2 = H', ?_, ?_⟩
      · refine ⟨_, rfl, _, rfl, _, rfl, _, _, rfl, .inl (Evl.ex_l e2 ha), _, _, rfl, rfl, _, rfl, ?_⟩
        refine ifB (fun c => ?_) (fun c => ?_)
        · have c := of_decide_eq_true c
          rw [List.length_map] at c
          refine ⟨_, rfl, _, rfl, _, _, _, _, rfl, rfl, Evl.ex_l e2 ha, at_nat (by omega), _, rfl, _, _, rfl, .inl (Evl.ex_l e2 hm), rfl, flatI _, rfl, _, rfl, ?_⟩
          rw [inV_int, ← flag_in (by omega), decBl]
          exact ⟨rfl, rfl⟩
        · have c := of_decide_eq_false c
          rw [List.length_map] at c
          have fo := flag_out (ns := ns) (ms := ms) (p := i) (by omega)
          refine ⟨rfl, _, rfl, ?_⟩
          rw [decBl]
          refine ⟨?_, rfl⟩
          unfold prB
          rw [show (((i : Nat) : Int)).toNat = i from rfl, fo]
      rintro b H' ⟨rfl, rfl⟩
      rw [List.range_succ, List.map_append, List.filter_append]
      refine ifB (fun c => ?_) (fun c => ?_)
      · refine ⟨_, rfl, .inl ⟨rfl, _, sqI d2⟩, _, rfl, _, _, _, rfl, rfl, d2, ?_, _, _, rfl, Evl.Ex.mut e2 nF, ?_⟩
        · rw [List.length_map]
          have h1 := List.length_filter_le (prB ns ms) ((List.range i).map fun i => (0 : Int) + ((i : Nat) : Int))
          rw [List.length_map, List.length_range] at h1
          exact Nat.lt_of_le_of_lt (show _ ≤ 1000 by omega) (by decide)
        · rw [upd_same, List.map_append, List.map_cons, List.filter_cons, ei, if_pos c]
          rfl
      · refine ⟨_, _, rfl, e2, ?_⟩
        rw [d2, List.map_cons, List.filter_cons, ei, if_neg (by rw [c]; exact Bool.false_ne_true)]
        simp
    · rintro σ H2 ⟨v3, v4, rfl, e2, d2⟩
      have en : (((ns.length : Nat) : Int) + 1).toNat = ns.length + 1 := by omega
      rw [en] at d2
      exact ⟨_, rfl, k F H2 nF e2 d2⟩
end
end K31
set_option Elab.async false
set_option pp.maxSteps 1200
set_option linter.all false
set_option maxRecDepth 100000
set_option maxHeartbeats 4000000
/-! Best covers, counted and built from the first border on. -/
namespace K31
open PySem L2 My
theorem go_tokI (k : Bk) (c : Int) : ∀ n b, ∀ t ∈ coverGo k c n b, TokI t
  | 0, _, t, h => by cases h
  | n + 1, b, t, h => by
    unfold coverGo at h
    split at h
    · split at h
      · rcases List.mem_cons.mp h with z | z
        · rw [z]; exact .inl ⟨b, rfl⟩
        · exact go_tokI k c n _ t z
      · rcases List.mem_cons.mp h with z | z
        · rw [z]; exact .inr ⟨b, rfl⟩
        · exact go_tokI k c n _ t z
    · cases h
theorem cover_tokI {bs : List Bk} {ix : Int} : ∀ t ∈ coverL bs ix, TokI t := fun t ht => by
  obtain ⟨kc, _, h⟩ := List.mem_flatMap.mp ht
  exact go_tokI _ _ _ _ t h
theorem flg0 (ns : List Int) : flg ns [] = List.replicate ns.length false := by
  unfold flg
  rw [List.map_eq_replicate_iff]
  intro r _
  simp
theorem borders_nn {ns ms : List Int} {x : Int} (h : x ∈ bordersL ns ms) : 0 ≤ x ∧ x ≤ ns.length := borders_in_ h
/-- the clicks of a best cover -/
theorem cover_mv (ns ms : List Int) {ix : Int} (h0 : 0 ≤ ix) (h1 : ix < cntB (blocksL (bordersL ns ms))) :
    (coverL (blocksL (bordersL ns ms)) ix).flatten = bordersL ns ms ∧ ((coverL (blocksL (bordersL ns ms)) ix).length : Int) = costL ns ms ∧ clicksL (coverL (blocksL (bordersL ns ms)) ix) = (movesT (coverL (blocksL (bordersL ns ms)) ix)).map clM ∧ (∀ m ∈ movesT (coverL (blocksL (bordersL ns ms)) ix), m.2 < ns.length) ∧ costN (scA ns.length (movesT (coverL (blocksL (bordersL ns ms)) ix))).1 = (movesT (coverL (blocksL (bordersL ns ms)) ix)).length := by
  have hb := blocks_le (bordersL ns ms)
  have pw := borders_asc ns ms
  obtain ⟨_, fl, _⟩ := blk_sep pw
  have ef := coverL_flat hb h0 h1
  rw [fl] at ef
  have ev := singles_even ns ms ix
  have tI := cover_tokI (bs := blocksL (bordersL ns ms)) (ix := ix)
  have cc := coverL_cost _ hb ix
  obtain ⟨T, hT⟩ : ∃ T, T = coverL (blocksL (bordersL ns ms)) ix := ⟨_, rfl⟩
  rw [← hT] at ef ev tI cc ⊢
  have tk : ∀ t ∈ T, TokN t := fun t ht => by
    have mem : ∀ x ∈ t, 0 ≤ x := fun x hx => by
      have : x ∈ T.flatten := List.mem_flatten.mpr ⟨t, ht, hx⟩
      rw [ef] at this
      exact (borders_nn this).1
    rcases tI t ht with ⟨b, rfl⟩ | ⟨b, rfl⟩
    · have := mem b (by simp)
      exact .inl ⟨b.toNat, by rw [show ((b.toNat : Nat) : Int) = b by omega]⟩
    · have := mem b (by simp)
      exact .inr ⟨b.toNat, by rw [show ((b.toNat : Nat) : Int) = b by omega]⟩
  have cm := clicks_mv tk (by rw [ef]; exact pw)
  have lf : (flg ns ms).length = ns.length := by simp [flg]
  obtain ⟨l1, l2⟩ := cover_lead (n := ns.length) (fl := flg ns ms) (a := none) lf tk (by rw [ef, borders_C]) (by rw [ef]; exact pw) ev fun x hx => by
    rw [ef] at hx
    exact (borders_nn hx).2
  refine ⟨ef, by rw [cc]; rfl, cm, l2, ?_⟩
  have e1 : (scA ns.length (movesT T)).1 = flg ns ms := l1
  have len : ((movesT T).length : Int) = costL ns ms := by
    have z : (clicksL T).length = (movesT T).length := by rw [cm, List.length_map]
    rw [← z]
    have tl : ∀ t ∈ T, t.length = 1 ∨ t.length = 2 := fun t ht => by
      rcases tI t ht with ⟨b, rfl⟩ | ⟨b, rfl⟩
      · exact .inl rfl
      · exact .inr rfl
    have tc := tok_count _ tl
    unfold clicksL
    rw [List.length_append, pairs_even _ ev, List.length_map, tc, cc]
    rfl
  rw [e1]
  have := costL_N ns ms
  omega
/-! ### counted -/
def costP (ps : List Int) : Int := ((blocksL ps).map costB).sum
def cntP (ps : List Int) : Int := cntB (blocksL ps)
def joinN (w1 : Int × Int) (w2 : Option (Int × Int)) : Int × Int := match w2 with
  | none => w1
  | some w => if w.1 < w1.1 then w else if w.1 = w1.1 then (w1.1, w1.2 + w.2) else w1
def numD : List Int → Int × Int
  | [] => (0, 1)
  | [_] => (1, 1)
  | b :: c :: qs => joinN ((numD (c :: qs)).1 + 1, (numD (c :: qs)).2) (if c = b + 1 then some ((numD qs).1 + 1, (numD qs).2) else none)
theorem costP_addF (b : Int) (ps : List Int) : costP (b :: ps) = ((addF b (blocksL ps)).map costB).sum := by
  unfold costP
  rw [blocks_cons]
theorem cntP_addF (b : Int) (ps : List Int) : cntP (b :: ps) = cntB (addF b (blocksL ps)) := by
  unfold cntP
  rw [blocks_cons]
theorem sum_cons (k : Bk) (r : List Bk) : ((k :: r).map costB).sum = costB k + (r.map costB).sum := by
  rw [List.map_cons, List.sum_cons]
theorem blk_nil {ps : List Int} (pw : ps.Pairwise (· < ·)) (h : blocksL ps = []) : ps = [] := by
  have := (blk_sep pw).2.1
  rw [h] at this
  exact this.symm
theorem numD_eq : ∀ ps : List Int, ps.Pairwise (· < ·) → numD ps = (costP ps, cntP ps)
  | [], _ => rfl
  | [b], _ => by
    have hb : blocksL [b] = [(b, b)] := rfl
    unfold costP cntP numD
    rw [hb, sum_cons, cntB_cons]
    unfold costB numB cntB
    simp only [List.map_nil, List.sum_nil, List.foldl_nil]
    have e1 : (b - b + 2) / 2 = 1 := by omega
    have e2 : (b - b + 1) % 2 = 1 := by omega
    have e3 : (b - b + 1) / 2 + 1 = 1 := by omega
    rw [e1, if_pos e2, e3]
    rfl
  | b :: c :: qs, pw => by
    have p1 := List.Pairwise.of_cons pw
    have p2 := List.Pairwise.of_cons p1
    have bc : b < c := List.rel_of_pairwise_cons pw List.mem_cons_self
    have i1 := numD_eq (c :: qs) p1
    have i2 := numD_eq qs p2
    unfold numD
    rw [i1, i2]
    have h1 : (blocksL (c :: qs)) = addF c (blocksL qs) := blocks_cons c qs
    have hd1 := (blk_sep p1).2.2
    have le2 := blocks_le qs
    have e0 : costB (b, b) = 1 := by show (b - b + 2) / 2 = 1; omega
    have n0 : numB (b, b) = 1 := by
      unfold numB
      show (if (b - b + 1) % 2 = 1 then (b - b + 1) / 2 + 1 else 1) = 1
      rw [if_pos (by omega)]
      omega
    by_cases cb : c = b + 1
    · rw [if_pos cb, costP_addF b, cntP_addF b, h1]
      cases hb2 : blocksL qs with
      | nil =>
        have q0 := blk_nil p2 hb2
        subst q0
        have a1 : addF c [] = [(c, c)] := rfl
        have a2 : addF b [(c, c)] = [(b, c)] := by
          show (if c = b + 1 then _ else _) = _
          rw [if_pos cb]
        rw [a1, a2]
        have s1 : costP [c] = 1 := by
          have := numD_eq [c] p1
          exact (congrArg Prod.fst this).symm
        have s2 : cntP [c] = 1 := by
          have := numD_eq [c] p1
          exact (congrArg Prod.snd this).symm
        have s3 : costP [] = 0 := rfl
        have s4 : cntP [] = 1 := rfl
        rw [s1, s2, s3, s4, sum_cons, cntB_cons]
        have t1 : costB (b, c) = 1 := by show (c - b + 2) / 2 = 1; omega
        have t2 : numB (b, c) = 1 := by
          unfold numB
          show (if (c - b + 1) % 2 = 1 then _ else 1) = 1
          rw [if_neg (by omega)]
        rw [t1, t2]
        rfl
      | cons k r =>
        have kl : k.1 ≤ k.2 := le2 k (by rw [hb2]; exact List.mem_cons_self)
        have sq : costP qs = costB k + (r.map costB).sum := by unfold costP; rw [hb2, sum_cons]
        have cq : cntP qs = numB k * cntB r := by unfold cntP; rw [hb2, cntB_cons]
        obtain ⟨R, hR⟩ : ∃ R, R = (r.map costB).sum := ⟨_, rfl⟩
        obtain ⟨C, hC⟩ : ∃ C, C = cntB r := ⟨_, rfl⟩
        rw [← hR] at sq
        rw [← hC] at cq
        by_cases kc : k.1 = c + 1
        · have a1 : addF c (k :: r) = (c, k.2) :: r := by
            show (if k.1 = c + 1 then _ else _) = _
            rw [if_pos kc]
          have a2 : addF b ((c, k.2) :: r) = (b, k.2) :: r := by
            show (if c = b + 1 then _ else _) = _
            rw [if_pos cb]
          have s1 : costP (c :: qs) = costB (c, k.2) + R := by rw [costP_addF, hb2, a1, sum_cons, hR]
          have s2 : cntP (c :: qs) = numB (c, k.2) * C := by rw [cntP_addF, hb2, a1, cntB_cons, hC]
          rw [a1, a2, sum_cons, cntB_cons, ← hR, ← hC, s1, s2, sq, cq]
          have n1 : numB k = if (k.2 - k.1 + 1) % 2 = 1 then (k.2 - k.1 + 1) / 2 + 1 else 1 := rfl
          have n2 : numB (c, k.2) = if (k.2 - c + 1) % 2 = 1 then (k.2 - c + 1) / 2 + 1 else 1 := rfl
          have n3 : numB (b, k.2) = if (k.2 - b + 1) % 2 = 1 then (k.2 - b + 1) / 2 + 1 else 1 := rfl
          have c1 : costB k = (k.2 - k.1 + 2) / 2 := rfl
          have c2 : costB (c, k.2) = (k.2 - c + 2) / 2 := rfl
          have c3 : costB (b, k.2) = (k.2 - b + 2) / 2 := rfl
          unfold joinN
          by_cases od : (k.2 - k.1 + 1) % 2 = 1
          · rw [if_pos od] at n1
            rw [if_neg (by omega)] at n2
            rw [if_pos (by omega)] at n3
            show (if costB k + R + 1 < costB (c, k.2) + R + 1 then _ else if costB k + R + 1 = costB (c, k.2) + R + 1 then (costB (c, k.2) + R + 1, numB (c, k.2) * C + numB k * C) else _) = _
            rw [if_neg (by omega), if_pos (by omega), n1, n2, n3, ← Int.add_mul]
            refine Prod.ext (by show costB (c, k.2) + R + 1 = costB (b, k.2) + R; omega) ?_
            show (1 + ((k.2 - k.1 + 1) / 2 + 1)) * C = ((k.2 - b + 1) / 2 + 1) * C
            rw [show (1 + ((k.2 - k.1 + 1) / 2 + 1)) = (k.2 - b + 1) / 2 + 1 by omega]
          · rw [if_neg od] at n1
            rw [if_neg (show ¬ (k.2 - b + 1) % 2 = 1 by omega)] at n3
            show (if costB k + R + 1 < costB (c, k.2) + R + 1 then (costB k + R + 1, numB k * C) else _) = _
            rw [if_pos (by omega), n1, n3]
            refine Prod.ext (by show costB k + R + 1 = costB (b, k.2) + R; omega) rfl
        · have a1 : addF c (k :: r) = (c, c) :: k :: r := by
            show (if k.1 = c + 1 then _ else _) = _
            rw [if_neg kc]
          have a2 : addF b ((c, c) :: k :: r) = (b, c) :: k :: r := by
            show (if c = b + 1 then _ else _) = _
            rw [if_pos cb]
          have s1 : costP (c :: qs) = 1 + (costB k + R) := by
            rw [costP_addF, hb2, a1, sum_cons, sum_cons, hR]
            have : costB (c, c) = 1 := by show (c - c + 2) / 2 = 1; omega
            rw [this]
          rw [a1, a2, sum_cons, sum_cons, cntB_cons, cntB_cons, ← hR, ← hC, s1, sq, cq]
          have t1 : costB (b, c) = 1 := by show (c - b + 2) / 2 = 1; omega
          have t2 : numB (b, c) = 1 := by
            unfold numB
            show (if (c - b + 1) % 2 = 1 then _ else 1) = 1
            rw [if_neg (by omega)]
          rw [t1, t2]
          unfold joinN
          show (if costB k + R + 1 < 1 + (costB k + R) + 1 then (costB k + R + 1, numB k * C) else _) = _
          rw [if_pos (by omega), Int.one_mul]
          exact Prod.ext (by show costB k + R + 1 = 1 + (costB k + R); omega) rfl
    · rw [if_neg cb]
      have a2 : addF b (blocksL (c :: qs)) = (b, b) :: blocksL (c :: qs) := by
        cases hb : blocksL (c :: qs) with
        | nil => rfl
        | cons k r =>
          obtain ⟨t, ht⟩ := hd1 k (by rw [hb]; rfl)
          have k1 : k.1 = c := by
            injection ht with h _
            exact h.symm
          show (if k.1 = b + 1 then _ else _) = _
          rw [if_neg (by rw [k1]; exact cb)]
      show (costP (c :: qs) + 1, cntP (c :: qs)) = _
      rw [costP_addF b, cntP_addF b, a2, sum_cons, cntB_cons, e0, n0, Int.one_mul]
      exact Prod.ext (by show costP (c :: qs) + 1 = 1 + _; unfold costP; omega) rfl
/-! ### built -/
def bestC (ps : List Int) : List (List (List Int)) := (upN (cntP ps).toNat).map (coverL (blocksL ps))
theorem mem_bestC {ps : List Int} (pw : ps.Pairwise (· < ·)) {T : List (List Int)} : T ∈ bestC ps ↔ (∀ t ∈ T, TokI t) ∧ T.flatten = ps ∧ (T.length : Int) = costP ps := by
  obtain ⟨sep, fl, _⟩ := blk_sep pw
  have hb := blocks_le ps
  unfold bestC
  rw [List.mem_map]
  constructor
  · rintro ⟨i, hi, rfl⟩
    have := upN_mem hi
    have i1 : i < cntB (blocksL ps) := by
      have h2 := this.2
      unfold cntP at h2
      omega
    exact ⟨cover_tokI, (coverL_flat hb this.1 i1).trans fl, coverL_cost _ hb i⟩
  · rintro ⟨h1, h2, h3⟩
    obtain ⟨ix, i0, i1, e⟩ := (best_ix sep h1 (by rw [h2, fl])).2 h3
    refine ⟨ix, upN_in i0 ?_, e.symm⟩
    show ix < (((cntP ps).toNat : Nat) : Int)
    unfold cntP
    omega
theorem cost_least {ps : List Int} (pw : ps.Pairwise (· < ·)) {T : List (List Int)} (h1 : ∀ t ∈ T, TokI t) (h2 : T.flatten = ps) : costP ps ≤ (T.length : Int) := by
  obtain ⟨sep, fl, _⟩ := blk_sep pw
  exact (best_ix sep h1 (by rw [h2, fl])).1
theorem bestC_ne {ps : List Int} : coverL (blocksL ps) 0 ∈ bestC ps := by
  have := cntB_pos (blocks_le ps)
  refine List.mem_map.mpr ⟨0, upN_in (Int.le_refl _) ?_, rfl⟩
  show (0 : Int) < (((cntP ps).toNat : Nat) : Int)
  unfold cntP
  omega
theorem cov_inj {bs : List Bk} (hb : ∀ k ∈ bs, k.1 ≤ k.2) {i j : Int} (i0 : 0 ≤ i) (i1 : i < cntB bs) (j0 : 0 ≤ j) (j1 : j < cntB bs) (e : coverL bs i = coverL bs j) : i = j := by
  have h1 : ¬ i < j := fun z => by
    have := (coverL_fore hb i0 z j1).lt
    rw [e] at this
    exact List.lt_irrefl _ this
  have h2 : ¬ j < i := fun z => by
    have := (coverL_fore hb j0 z i1).lt
    rw [e] at this
    exact List.lt_irrefl _ this
  omega
theorem bestC_nodup (ps : List Int) : (bestC ps).Nodup := by
  unfold bestC List.Nodup
  rw [List.pairwise_map]
  refine (upN_asc _).imp_of_mem fun {a b} ha hb hab e => ?_
  have a1 := upN_mem ha
  have b1 := upN_mem hb
  have := cov_inj (blocks_le ps) a1.1 (by have := a1.2; unfold cntP at this; omega) b1.1 (by have := b1.2; unfold cntP at this; omega) e
  omega
def waysA (b : Int) (ps : List Int) : List (List (List Int)) := (bestC ps).map ([b] :: ·) ++ if ps.head? = some (b + 1) then (bestC ps.tail).map ([b, b + 1] :: ·) else []
theorem ways_ok {b : Int} {ps : List Int} (pw : (b :: ps).Pairwise (· < ·)) {T : List (List Int)} (h : T ∈ waysA b ps) : (∀ t ∈ T, TokI t) ∧ T.flatten = b :: ps := by
  have p1 := List.Pairwise.of_cons pw
  unfold waysA at h
  rcases List.mem_append.mp h with z | z
  · obtain ⟨S, hS, rfl⟩ := List.mem_map.mp z
    obtain ⟨h1, h2, _⟩ := (mem_bestC p1).mp hS
    refine ⟨fun t ht => ?_, ?_⟩
    · rcases List.mem_cons.mp ht with y | y
      · exact .inl ⟨b, y⟩
      · exact h1 t y
    · rw [List.flatten_cons, h2]
      rfl
  · by_cases c : ps.head? = some (b + 1)
    · rw [if_pos c] at z
      obtain ⟨S, hS, rfl⟩ := List.mem_map.mp z
      cases ps with
      | nil => cases c
      | cons x qs =>
        have c : some x = some (b + 1) := c
        cases c
        obtain ⟨h1, h2, _⟩ := (mem_bestC (List.Pairwise.of_cons p1)).mp hS
        refine ⟨fun t ht => ?_, ?_⟩
        · rcases List.mem_cons.mp ht with y | y
          · exact .inr ⟨b, y⟩
          · exact h1 t y
        · rw [List.flatten_cons, h2]
          rfl
    · rw [if_neg c] at z
      cases z
theorem ways_all {b : Int} {ps : List Int} (pw : (b :: ps).Pairwise (· < ·)) {T : List (List Int)} (h1 : ∀ t ∈ T, TokI t) (h2 : T.flatten = b :: ps) (h3 : (T.length : Int) = costP (b :: ps)) : T ∈ waysA b ps := by
  have p1 := List.Pairwise.of_cons pw
  unfold waysA
  cases T with
  | nil => cases h2
  | cons t S =>
    have hS : ∀ t ∈ S, TokI t := fun x hx => h1 x (List.mem_cons_of_mem _ hx)
    rw [List.flatten_cons] at h2
    have le : ∀ (qs : List Int) (u : List Int), (b :: ps) = u ++ qs → qs.Pairwise (· < ·) → TokI u → costP (b :: ps) ≤ costP qs + 1 := fun qs u e pq tu => by
      have m := (mem_bestC pq).mp (bestC_ne (ps := qs))
      have := cost_least pw (T := u :: coverL (blocksL qs) 0) (fun x hx => by
        rcases List.mem_cons.mp hx with y | y
        · rw [y]; exact tu
        · exact m.1 x y) (by rw [List.flatten_cons, m.2.1, e])
      rw [List.length_cons] at this
      have := m.2.2
      omega
    rcases h1 t List.mem_cons_self with ⟨x, rfl⟩ | ⟨x, rfl⟩
    · injection h2 with e1 e2
      have e2 : S.flatten = ps := e2
      subst e1
      refine List.mem_append_left _ (List.mem_map.mpr ⟨S, (mem_bestC p1).mpr ⟨hS, e2, ?_⟩, rfl⟩)
      have l1 := cost_least p1 hS e2
      have l2 := le ps [x] rfl p1 (.inl ⟨x, rfl⟩)
      rw [List.length_cons] at h3
      omega
    · injection h2 with e1 e2
      have e2 : (x + 1) :: S.flatten = ps := e2
      subst e1
      have hd : ps.head? = some (x + 1) := by rw [← e2]; rfl
      have tl : ps.tail = S.flatten := by rw [← e2]; rfl
      rw [if_pos hd]
      have p2 : S.flatten.Pairwise (· < ·) := by
        rw [← e2] at p1
        exact List.Pairwise.of_cons p1
      refine List.mem_append_right _ (List.mem_map.mpr ⟨S, ?_, rfl⟩)
      rw [tl]
      refine (mem_bestC p2).mpr ⟨hS, rfl, ?_⟩
      have l1 := cost_least p2 hS rfl
      have l2 := le S.flatten [x, x + 1] (by rw [← e2]; rfl) p2 (.inr ⟨x, rfl⟩)
      rw [List.length_cons] at h3
      omega
theorem ways_nodup (b : Int) (ps : List Int) : (waysA b ps).Nodup := by
  unfold waysA
  have inj : ∀ (t : List Int) (l : List (List (List Int))), l.Nodup → (l.map (t :: ·)).Nodup := fun t l h => by
    unfold List.Nodup at h ⊢
    rw [List.pairwise_map]
    exact h.imp fun {a b} hab e => hab (by injection e)
  rw [List.nodup_append]
  refine ⟨inj _ _ (bestC_nodup _), ?_, ?_⟩
  · split
    · exact inj _ _ (bestC_nodup _)
    · exact List.nodup_nil
  · intro x hx y hy e
    obtain ⟨S, _, rfl⟩ := List.mem_map.mp hx
    split at hy
    · obtain ⟨U, _, rfl⟩ := List.mem_map.mp hy
      injection e with e1 _
      cases e1
    · cases hy
theorem ways_least {b : Int} {ps : List Int} (pw : (b :: ps).Pairwise (· < ·)) : (∀ T ∈ waysA b ps, costP (b :: ps) ≤ (T.length : Int)) ∧ ∃ T ∈ waysA b ps, (T.length : Int) = costP (b :: ps) := by
  refine ⟨fun T hT => cost_least pw (ways_ok pw hT).1 (ways_ok pw hT).2, ?_⟩
  have m := (mem_bestC pw).mp (bestC_ne (ps := b :: ps))
  exact ⟨_, ways_all pw m.1 m.2.1 m.2.2, m.2.2⟩
open Classical in
theorem ways_sorted {b : Int} {ps : List Int} (pw : (b :: ps).Pairwise (· < ·)) : ((waysA b ps).filter fun T => decide ((T.length : Int) = costP (b :: ps))).mergeSort (PySem.W.dataLe false eCov) = bestC (b :: ps) := by
  obtain ⟨L, hL⟩ : ∃ L, L = (waysA b ps).filter fun T => decide ((T.length : Int) = costP (b :: ps)) := ⟨_, rfl⟩
  rw [← hL]
  have mem : ∀ T, T ∈ L ↔ T ∈ bestC (b :: ps) := fun T => by
    rw [hL, List.mem_filter, decide_eq_true_iff, mem_bestC pw]
    constructor
    · rintro ⟨h1, h2⟩
      exact ⟨(ways_ok pw h1).1, (ways_ok pw h1).2, h2⟩
    · rintro ⟨h1, h2, h3⟩
      exact ⟨ways_all pw h1 h2 h3, h3⟩
  have ndL : L.Nodup := by
    rw [hL]
    exact (ways_nodup b ps).filter _
  have hb := blocks_le (b :: ps)
  obtain ⟨bs, hbs⟩ : ∃ bs, bs = blocksL (b :: ps) := ⟨_, rfl⟩
  have eall : bestC (b :: ps) = (upN (cntB bs).toNat).map (coverL bs) := by
    rw [hbs]
    rfl
  rw [← hbs] at hb
  have pos := cntB_pos hb
  have ex : ∀ T ∈ L, ∃ i, (0 ≤ i ∧ i < cntB bs) ∧ coverL bs i = T := fun T hT => by
    have := (mem T).mp hT
    rw [eall] at this
    obtain ⟨i, hi, e⟩ := List.mem_map.mp this
    have := upN_mem hi
    exact ⟨i, ⟨this.1, by omega⟩, e⟩
  obtain ⟨idx, hidx⟩ : ∃ idx : List (List Int) → Int, ∀ T ∈ L, (0 ≤ idx T ∧ idx T < cntB bs) ∧ coverL bs (idx T) = T :=
    ⟨fun T => if h : ∃ i, (0 ≤ i ∧ i < cntB bs) ∧ coverL bs i = T then h.choose else 0, fun T hT => by
      have h := ex T hT
      simp only [dif_pos h]
      exact h.choose_spec⟩
  have eL : L = (L.map idx).map (coverL bs) := by
    rw [List.map_map]
    conv => lhs; rw [← List.map_id L]
    exact List.map_congr_left fun T hT => ((hidx T hT).2).symm
  have rng : ∀ i ∈ L.map idx, 0 ≤ i ∧ i < cntB bs := fun i hi => by
    obtain ⟨T, hT, rfl⟩ := List.mem_map.mp hi
    exact (hidx T hT).1
  have ms := List.map_mergeSort (r := fun i j : Int => decide (i ≤ j)) (s := PySem.W.dataLe false eCov) (f := coverL bs) (l := L.map idx) fun i hi j hj => by
    show decide (i ≤ j) = !PySem.W.dataLt (eCov (coverL bs j)) (eCov (coverL bs i))
    have := lt_ix hb (rng j hj).1 (rng j hj).2 (rng i hi).1 (rng i hi).2
    rw [lt_cov, Bool.eq_iff_iff, Bool.not_eq_true', decide_eq_true_iff, decide_eq_false_iff_not, this]
    omega
  rw [eall, eL, ← ms]
  refine congrArg (List.map (coverL bs)) ?_
  have ndI : (L.map idx).Nodup := by
    unfold List.Nodup at ndL ⊢
    rw [List.pairwise_map]
    refine ndL.imp_of_mem fun {a b} ha hb' hab e => hab ?_
    rw [← (hidx a ha).2, ← (hidx b hb').2, e]
  have sorted := List.pairwise_mergeSort (le := fun i j : Int => decide (i ≤ j)) (fun a b c h1 h2 => by simp only [decide_eq_true_eq] at *; omega) (fun a b => by simp only [Bool.or_eq_true, decide_eq_true_eq]; omega) (L.map idx)
  refine asc_unique (asc_of (List.mergeSort_perm _ _) (sorted.imp fun {a b} h => of_decide_eq_true h) ndI) (upN_asc _) fun i => ?_
  rw [(List.mergeSort_perm _ _).mem_iff]
  constructor
  · intro hi
    have := rng i hi
    exact upN_in this.1 (by show i < (((cntB bs).toNat : Nat) : Int); omega)
  · intro hi
    have h := upN_mem hi
    have hT : coverL bs i ∈ L := (mem _).mpr (by rw [eall]; exact List.mem_map.mpr ⟨i, hi, rfl⟩)
    have e := hidx _ hT
    have := cov_inj hb e.1.1 e.1.2 h.1 (by omega) e.2
    exact List.mem_map.mpr ⟨_, hT, this⟩
theorem num_half {k : Bk} (h : k.1 ≤ k.2) : ∃ t : Nat, 2 * (t : Int) ≤ sizeB k ∧ numB k ≤ 2 ^ t := by
  have key : ∀ n : Nat, (n : Int) + 1 ≤ 2 ^ n := by
    intro n
    induction n with
    | zero => decide
    | succ n ih =>
      rw [Int.pow_succ]
      omega
  refine ⟨((k.2 - k.1 + 1) / 2).toNat, ?_, ?_⟩
  · unfold sizeB
    omega
  · have := key ((k.2 - k.1 + 1) / 2).toNat
    unfold numB
    split <;> omega
theorem cnt_half : ∀ {bs : List Bk}, (∀ k ∈ bs, k.1 ≤ k.2) → ∃ n : Nat, 2 * (n : Int) ≤ (bs.map sizeB).sum ∧ cntB bs ≤ 2 ^ n
  | [], _ => ⟨0, by simp, by decide⟩
  | k :: r, h => by
    obtain ⟨n, h1, h2⟩ := cnt_half (bs := r) fun x hx => h x (List.mem_cons_of_mem _ hx)
    obtain ⟨t, t1, t2⟩ := num_half (h k List.mem_cons_self)
    refine ⟨t + n, ?_, ?_⟩
    · rw [List.map_cons, List.sum_cons]
      omega
    · rw [cntB_cons, Int.pow_add]
      have n1 := numB_pos (h k List.mem_cons_self)
      have c1 := cntB_pos (bs := r) fun x hx => h x (List.mem_cons_of_mem _ hx)
      exact Int.mul_le_mul t2 h2 (by omega) (Int.le_of_lt (Int.pow_pos (by decide)))
theorem cnt_len {ps : List Int} (h : ps.length ≤ 13) : (bestC ps).length ≤ 64 := by
  obtain ⟨n, h1, h2⟩ := cnt_half (blocks_le ps)
  rw [blocks_size] at h1
  have hn : n ≤ 6 := by omega
  have h3 : (2 : Int) ^ n ≤ 2 ^ 6 := by
    rcases (show n = 0 ∨ n = 1 ∨ n = 2 ∨ n = 3 ∨ n = 4 ∨ n = 5 ∨ n = 6 by omega) with z | z | z | z | z | z | z <;> rw [z] <;> decide
  have h4 : (2 : Int) ^ 6 = 64 := by decide
  unfold bestC cntP
  rw [List.length_map, upN_len]
  omega
theorem cost_len {ps : List Int} (pw : ps.Pairwise (· < ·)) {T : List (List Int)} (h : T ∈ bestC ps) : T.length ≤ ps.length := by
  obtain ⟨h1, h2, h3⟩ := (mem_bestC pw).mp h
  rw [← h2]
  clear h h2 h3
  induction T with
  | nil => exact Nat.zero_le _
  | cons t T ih =>
    have := ih fun x hx => h1 x (List.mem_cons_of_mem _ hx)
    rw [List.length_cons, List.flatten_cons, List.length_append]
    rcases h1 t List.mem_cons_self with ⟨x, e⟩ | ⟨x, e⟩ <;> rw [e]
    · show T.length + 1 ≤ 1 + _
      omega
    · show T.length + 1 ≤ 2 + _
      omega
end K31
set_option Elab.async false
set_option pp.maxSteps 1200
set_option linter.all false
set_option maxRecDepth 100000
set_option maxHeartbeats 4000000
namespace K31
open PySem L2 My
/-- a cover as a list -/
def CvR (K : PySem.W.Frag) (H : Hp) (v : V) (T : List (List Int)) : Prop := ∃ q us, v = .ref q ∧ H q = some (.lst us) ∧ AllR (TkR K H) us T
def CvD (K : PySem.W.Frag) (D : Addr) (H : Hp) (v : V) (T : List (List Int)) : Prop := ∃ q us, v = .ref q ∧ q ≠ D ∧ H q = some (.lst us) ∧ AllR (TkR K H) us T
theorem CvR.ex {K : PySem.W.Frag} {H H' : Hp} {v : V} {T : List (List Int)} (e : Ex H H') : CvR K H v T → CvR K H' v T
  | ⟨q, us, h1, h2, h3⟩ => ⟨q, us, h1, e _ _ h2, h3.mono fun v t r => r.ex e⟩
theorem CvD.ex {K : PySem.W.Frag} {D : Addr} {H H' : Hp} {v : V} {T : List (List Int)} (e : Ex H H') : CvD K D H v T → CvD K D H' v T
  | ⟨q, us, h1, h2, h3, h4⟩ => ⟨q, us, h1, h2, e _ _ h3, h4.mono fun v t r => r.ex e⟩
theorem CvD.put {K : PySem.W.Frag} {D : Addr} {H : Hp} {v : V} {T : List (List Int)} {xs ys : List V} (hD : H D = some (.lst xs)) : CvD K D H v T → CvD K D (upd H D (.lst ys)) v T
  | ⟨q, us, h1, h2, h3, h4⟩ => ⟨q, us, h1, h2, by rw [upd_ne h2]; exact h3, h4.mono fun v t r => r.exj (Exj.refl _ _).upd hD⟩
theorem CvD.cv {K : PySem.W.Frag} {D : Addr} {H : Hp} {v : V} {T : List (List Int)} : CvD K D H v T → CvR K H v T
  | ⟨q, us, h1, _, h3, h4⟩ => ⟨q, us, h1, h3, h4⟩
theorem CvR.dp {K : PySem.W.Frag} {H : Hp} {v : V} {T : List (List Int)} : CvR K H v T → Dp K H v (eCov T)
  | ⟨q, us, h1, h2, h3⟩ => by
    rw [h1]
    exact .lst (sqI h2) (h3.dp fun v t ⟨q, a, b⟩ => by rw [a]; exact .tup b (dpI t))
theorem cut_midS (xs : List V) (a d : Nat) : cutV xs (some (a : Int)) (some ((a : Int) + (d : Int))) = (xs.drop a).take d := by
  have e : ((a : Int) + (d : Int)) = ((a + d : Nat) : Int) := by omega
  rw [e]
  unfold cutV
  rw [HT.sIx_nat, HT.sIx_nat]
  by_cases h : a ≤ xs.length
  · rw [Nat.min_eq_left h]
    by_cases h2 : a + d ≤ xs.length
    · rw [Nat.min_eq_left h2, Nat.add_sub_cancel_left]
    · rw [Nat.min_eq_right (by omega), List.take_of_length_le (by rw [List.length_drop]; exact Nat.le_refl _), List.take_of_length_le (by rw [List.length_drop]; omega)]
  · rw [Nat.min_eq_right (show xs.length ≤ a by omega), Nat.min_eq_right (show xs.length ≤ a + d by omega), Nat.sub_self, List.take_zero, List.drop_eq_nil_of_le (by omega)]
    rw [List.take_nil]
def sp__law_covers (K : PySem.W.Frag) (d : Nat) : Sp := fun vs H Q _ => ∃ (a : Addr) (ps : List Int), vs = [.ref a] ∧ SqL K H a (ps.map V.int) ∧ ps.Pairwise (· < ·) ∧ ps.length < d ∧ d ≤ 13 ∧ ∀ p H' us, H p = none → Ex H H' → H' p = some (.lst us) → AllR (CvR K H') us (bestC ps) → Q (.ref p) H'
def sp__law_number (K : PySem.W.Frag) : Sp := fun vs H Q _ => ∃ (a : Addr) (ps : List Int), vs = [.ref a] ∧ SqL K H a (ps.map V.int) ∧ ps.Pairwise (· < ·) ∧ ps.length ≤ 100 ∧ ∀ q H', Ex H H' → SqT K H' q [.int (costP ps), .int (cntP ps)] → Q (.ref q) H'
section
variable {w : World} {K : PySem.W.Frag} {mg : Str → Option Value} {base : Heap}
/-- one of the two comprehensions: a token ahead of each cover -/
theorem ok__law_covers (T : Txt K mg) : ∀ d : Nat, FnOk PR w K mg base CX0 (d + 1) T.a__law_covers T.d__law_covers ["_law_found"] (sp__law_covers K d)
  | 0 => ⟨fun vs H Q E h => by
      obtain ⟨a, ps, rfl, _⟩ := h
      rfl, fun A outer s H args us vs Q E hr he hb hv h => by
      obtain ⟨a, ps, _, _, _, h, _⟩ := h
      exact absurd h (by omega)⟩
  | d + 1 => by
    have ih := ok__law_covers T d
    refine T.f__law_covers.ok sc__law_covers (fun vs H Q E h => ?_) (fun cdv A outer s H vs Q E hr h => ?_)
    · obtain ⟨a, ps, rfl, _⟩ := h
      rfl
    · obtain ⟨a, ps, rfl, ha, pw, pl, dl, k⟩ := h
      refine ⟨_, (pss_cons (ps_if (pt_cmpR (op_eqD hr.units) (pv 0) (pe_lstG pa_nil) (nomark _)) (pss_one (ps_ret (pe_lstG (pa_cons (pe_lstG pa_nil) pa_nil)))) pss_nil) (pss_cons (ps_setLc (i := 1) (own := [("_law_cover", 3)]) (g := gName 3) (by rfl) sc__law_covers.nd rfl rfl (sw_true rfl rfl rfl (by decide +kernel)) (pi_list (pe_call (ih) (hr.mono (by omega)) (by rfl) T.g__law_covers T.f__law_covers.kp (b__law_covers T) .nil pass0 (pa_cons (pe_slice sl_listG (pv 0) (po_some pe_int) po_none) pa_nil))) (blkOk_by (own := [("_law_cover", 3)]) (N := ["_law_found", "_law_ways", "_law_least", "_law_cover", "_law_way"]) (sc := (defScope s__law_covers)) (by decide +kernel)) (fun _ _ _ _ _ => (pg_name (i := 3) sc__law_covers.nd rfl (by first | exact Or.inl rfl | exact Or.inr rfl))) (fun _ _ _ _ _ => pts_nil) (fun _ _ _ _ _ => (pe_op op_catG (pe_lstG (pa_cons (pe_tupG (pa_cons (pe_ix (ixK (r := rIxL) (K := K) (by rfl) ix_list) (pv 0) pe_int (fun _ _ => rfl)) pa_nil)) pa_nil)) (pv 3)))) (pss_cons (ps_cut (ps_if (pt_cmpR (op_eqD hr.units) (pe_slice sl_listG (pv 0) (po_some pe_int) (po_some pe_int)) (pe_lstG (pa_cons (pe_op op_add (pe_ix ix_list (pv 0) pe_int (fun _ _ => rfl)) pe_int) pa_nil)) (nomark _)) (pss_one (ps_set (i := 1) sc__law_covers.nd rfl (by first | exact Or.inl rfl | exact Or.inr rfl) (pe_op op_catG (pv 1) (pe_lc (own := [("_law_cover", 3)]) (g := gName 3) (by rfl) sc__law_covers.nd (pi_list (pe_call (ih) (hr.mono (by omega)) (by rfl) T.g__law_covers T.f__law_covers.kp (b__law_covers T) .nil pass0 (pa_cons (pe_slice sl_listG (pv 0) (po_some pe_int) po_none) pa_nil))) (blkOk_by (own := [("_law_cover", 3)]) (N := ["_law_found", "_law_ways", "_law_least", "_law_cover", "_law_way"]) (sc := (defScope s__law_covers)) (by decide +kernel)) (fun _ _ _ _ _ => (pg_name (i := 3) sc__law_covers.nd rfl (by first | exact Or.inl rfl | exact Or.inr rfl))) (fun _ _ _ _ _ => pts_nil) (fun _ _ _ _ _ => (pe_op op_catG (pe_lstG (pa_cons (pe_tupG (pa_cons (pe_ix (ixK (r := rIxL) (K := K) (by rfl) ix_list) (pv 0) pe_int (fun _ _ => rfl)) (pa_cons (pe_op op_add (pe_ix (ixK (r := rIxL) (K := K) (by rfl) ix_list) (pv 0) pe_int (fun _ _ => rfl)) pe_int) pa_nil))) pa_nil)) (pv 3))))))) pss_nil)) (pss_cons (ps_set (i := 2) sc__law_covers.nd rfl (by first | exact Or.inl rfl | exact Or.inr rfl) (pe_callB (cr_min rfl) (by rfl) T.z_min (by decide +kernel) (pa_cons (pe_lc (own := [("_law_way", 4)]) (g := gName 4) (by rfl) sc__law_covers.nd (pi_list (pv 1)) (blkOk_by (own := [("_law_way", 4)]) (N := ["_law_found", "_law_ways", "_law_least", "_law_cover", "_law_way"]) (sc := (defScope s__law_covers)) (by decide +kernel)) (fun _ _ _ _ _ => (pg_name (i := 4) sc__law_covers.nd rfl (by first | exact Or.inl rfl | exact Or.inr rfl))) (fun _ _ _ _ _ => pts_nil) (fun _ _ _ _ _ => (pe_callB (crK (r := rLenSq) (K := K) (by rfl) call_len_seq) (by rfl) T.z_len PySem.boot_len (pa_cons (pv 4) pa_nil)))) pa_nil))) (pss_one (ps_ret (pe_callB (cr_sortedA hr.units) (by rfl) T.z_sorted (by decide +kernel) (pa_cons (pe_lc (own := [("_law_way", 4)]) (g := gName 4) (by rfl) sc__law_covers.nd (pi_list (pv 1)) (blkOk_by (own := [("_law_way", 4)]) (N := ["_law_found", "_law_ways", "_law_least", "_law_cover", "_law_way"]) (sc := (defScope s__law_covers)) (by decide +kernel)) (fun _ _ _ _ _ => (pg_name (i := 4) sc__law_covers.nd rfl (by first | exact Or.inl rfl | exact Or.inr rfl))) (fun _ _ _ _ _ => (pts_one (pt_cmpR op_eq (pe_callB (crK (r := rLenSq) (K := K) (by rfl) call_len_seq) (by rfl) T.z_len PySem.boot_len (pa_cons (pv 4) pa_nil)) (pv 2) (nomark _)))) (fun _ _ _ _ _ => (pv 4))) pa_nil)))))))), ?_⟩
      refine ⟨_, rfl, (by show 0 ≤ sizeLine; decide), fun p1 H1 n1 e1 h1 => ?_⟩
      refine eqI_ (ys := []) (Evl.ex_l e1 ha) (sqI h1) ⟨_, rfl, ?_⟩
      cases ps with
      | nil =>
        refine ifT rfl ?_
        refine ⟨(by show 0 ≤ sizeLine; decide), fun p2 H2 n2 e2 h2 => ?_⟩
        refine ⟨(by show 1 ≤ sizeLine; decide), fun p3 H3 n3 e3 h3 => ?_⟩
        refine k p3 H3 _ (none_of (e1.trans e2) n3) (e1.trans (e2.trans e3)) h3 ?_
        have : bestC [] = [[]] := rfl
        rw [this]
        exact AllR.one ⟨p2, [], rfl, e3 _ _ h2, AllR.nil⟩
      | cons b ps =>
        refine ifF (by simp) ?_
        have ha : SqL K H a ((b :: ps).map V.int) := ha
        have pl : ps.length + 1 < d + 1 := pl
        have p1w := List.Pairwise.of_cons pw
        have ha1 := Evl.ex_l e1 ha
        refine ⟨_, rfl, _, rfl, _, _, rfl, ha1, fun p4 H4 n4 e4 h4 => ?_⟩
        have c1 : cutV ((b :: ps).map V.int) (some 1) none = ps.map V.int := cut_from _ 1
        rw [c1] at h4
        refine ⟨p4, ps, rfl, sqI h4, p1w, by omega, by omega, fun p5 H5 u5 n5 e5 h5 a5 => ?_⟩
        have al1 := cnt_len (ps := ps) (by omega)
        have ul5 := a5.1
        have e05 := e1.trans (e4.trans e5)
        have ha5 := Evl.ex_l e05 ha
        have atb : atI ((b :: ps).map V.int) 0 = some (.int b) := at0
        have comp : ∀ {H5 : Hp} {qs : List Int} {u5 : List V} {p5 D : Addr} (tk : List Int), SqL K H5 p5 u5 → AllR (CvR K H5) u5 (bestC qs) → H5 D = none → ∀ (i : Nat) (H6 : Hp) (us : List V) (q : Addr) (w5 : List V) (Tq : List (List Int)), Ex H5 H6 → H6 D = some (.lst us) → AllR (CvD K D H6) us (((bestC qs).take i).map (tk :: ·)) → (bestC qs)[i]? = some Tq → H6 q = some (.lst w5) → AllR (TkR K H6) w5 Tq → ∀ (t1 l1 : Addr) (H7 H8 : Hp), H6 t1 = none → Ex H6 H7 → H7 t1 = some (.tup (tk.map V.int)) → H7 l1 = none → Ex H7 H8 → H8 l1 = some (.lst [.ref t1]) → ∀ (r : Addr) (H9 : Hp), H8 r = none → Ex H8 H9 → H9 r = some (.lst ([.ref t1] ++ w5)) → H9 D = some (.lst us) ∧ AllR (CvD K D (upd H9 D (.lst (us ++ [.ref r])))) (us ++ [.ref r]) (((bestC qs).take (i + 1)).map (tk :: ·)) ∧ Ex H5 (upd H9 D (.lst (us ++ [.ref r]))) := by
          intro H5 qs u5 p5 D tk h5 a5 nD i H6 us q w5 Tq e6 d6 a6 hT hq aw t1 l1 H7 H8 m7 x7 h7 m8 x8 h8 r H9 m9 x9 h9
          have x69 := x7.trans (x8.trans x9)
          have d9 := x69 _ _ d6
          refine ⟨d9, ?_, Evl.Ex.mut (e6.trans x69) nD⟩
          rw [take_snoc hT, List.map_append]
          refine AllR.snoc (a6.mono fun v T r => (r.ex x69).put d9) (CvD.put d9 ⟨r, _, rfl, (ne_of_none ((x7.trans x8) _ _ d6) m9).symm, h9, ?_⟩)
          exact AllR.append (AllR.one ⟨t1, rfl, sqT ((x8.trans x9) _ _ h7)⟩) (aw.mono fun v t r => r.ex x69)
        refine ⟨p5, rfl, ⟨_, sqI h5⟩, fun D hD => lc_it (walk_list (K := K) (a := p5) (xs := u5)) (fun i H' => ∃ us, Ex H5 H' ∧ H' D = some (.lst us) ∧ AllR (CvD K D H') us (((bestC ps).take i).map ([b] :: ·))) ⟨[], Evl.Ex.new hD, upd_same, AllR.nil⟩ (fun i H' _ ⟨_, e, _⟩ => sqI (e _ _ h5)) ?_ ?_⟩
        · rintro i x HX H6 hi ⟨us, e6, d6, a6⟩ ⟨rfl, hx⟩
          obtain ⟨Tq, hT, q, w5, rfl, hq, aw⟩ := a5.get hx
          have usl := a6.1
          rw [List.length_map, List.length_take] at usl
          refine ⟨rfl, ?_⟩
          show _
          refine ⟨_, rfl, _, _, _, _, rfl, rfl, Evl.ex_l (e05.trans e6) ha, atb, (by show 1 ≤ sizeLine; decide), fun t1 H7 m7 x7 h7 => ?_⟩
          refine ⟨(by show 1 ≤ sizeLine; decide), fun l1 H8 m8 x8 h8 => ?_⟩
          have hq8 := (x7.trans x8) _ _ (e6 _ _ hq)
          have wl : w5.length ≤ 12 := by
            rw [aw.1]
            have := cost_len p1w (List.mem_of_getElem? hT)
            omega
          refine ⟨_, rfl, _, _, _, _, rfl, rfl, h8, hq8, Nat.le_trans (show 1 + w5.length ≤ 13 by omega) (by decide), fun r H9 m9 x9 h9 => ?_⟩
          obtain ⟨d9, a9, e9⟩ := comp [b] (sqI h5) a5 hD i H6 us q w5 Tq e6 d6 a6 hT (e6 _ _ hq) (aw.mono fun v t r => r.ex e6) t1 l1 H7 H8 m7 x7 h7 m8 x8 h8 r H9 m9 x9 h9
          exact ⟨us, d9, Nat.lt_of_le_of_lt (show us.length ≤ 64 by omega) (by decide), us ++ [.ref r], e9, upd_same, a9⟩
        rintro H6 ⟨u6, e6, d6, a6⟩
        rw [ul5, List.take_length] at a6
        have e06 := e05.trans e6
        have ha6 := Evl.ex_l e06 ha
        have nD0 : H D = none := none_of e05 hD
        have a6' : AllR (CvR K H6) u6 ((bestC ps).map ([b] :: ·)) := a6.mono fun v T r => r.cv
        refine ⟨fun σ' H' => ∃ (W : Addr) (us : List V), σ' = [some (.ref a), some (.ref W), none, none, none] ∧ Ex H H' ∧ H' W = some (.lst us) ∧ AllR (CvR K H') us (waysA b ps), ?_, ?_⟩
        · refine ⟨_, rfl, _, rfl, _, rfl, _, _, rfl, ha6, fun p7 H7 n7 e7 h7 => ?_⟩
          have c2 : cutV ((b :: ps).map V.int) (some 1) (some 2) = (ps.take 1).map V.int := by
            have := cut_midS ((b :: ps).map V.int) 1 1
            rw [List.map_take]
            exact this
          rw [c2] at h7
          have e07 := e06.trans e7
          refine ⟨_, rfl, _, _, _, _, rfl, rfl, Evl.ex_l e07 ha, atb, _, _, rfl, rfl, (by show 1 ≤ sizeLine; decide), fun p8 H8 n8 e8 h8 => ?_⟩
          refine eqI_ (ys := [b + 1]) (sqI (e8 _ _ h7)) (sqI h8) ⟨_, rfl, ?_⟩
          have e08 := e07.trans e8
          have ehd : (ps.take 1 = [b + 1]) ↔ ps.head? = some (b + 1) := by
            cases ps with
            | nil => simp
            | cons c qs => simp
          by_cases hd : ps.head? = some (b + 1)
          · refine ifT (decide_eq_true (ehd.mpr hd)) ?_
            refine ⟨_, rfl, _, rfl, _, rfl, _, _, rfl, Evl.ex_l e08 ha, fun p9 H9 n9 e9 h9 => ?_⟩
            have c3 : cutV ((b :: ps).map V.int) (some 2) none = ps.tail.map V.int := by
              rw [show (2 : Int) = ((2 : Nat) : Int) from rfl, cut_from]
              cases ps <;> rfl
            rw [c3] at h9
            have p2w : ps.tail.Pairwise (· < ·) := p1w.tail
            have tl : ps.tail.length ≤ ps.length := by rw [List.length_tail]; omega
            refine ⟨p9, ps.tail, rfl, sqI h9, p2w, by omega, by omega, fun p10 H10 u10 n10 e10 h10 a10 => ?_⟩
            have al2 := cnt_len (ps := ps.tail) (by omega)
            have ul10 := a10.1
            have e010 := e08.trans (e9.trans e10)
            have e610 := e7.trans (e8.trans (e9.trans e10))
            refine ⟨p10, rfl, ⟨_, sqI h10⟩, fun D2 hD2 => lc_it (walk_list (K := K) (a := p10) (xs := u10)) (fun i H' => ∃ us, Ex H10 H' ∧ H' D2 = some (.lst us) ∧ AllR (CvD K D2 H') us (((bestC ps.tail).take i).map ([b, b + 1] :: ·))) ⟨[], Evl.Ex.new hD2, upd_same, AllR.nil⟩ (fun i H' _ ⟨_, e, _⟩ => sqI (e _ _ h10)) ?_ ?_⟩
            · rintro i x HX H11 hi ⟨us, e11, d11, a11⟩ ⟨rfl, hx⟩
              obtain ⟨Tq, hT, q, w5, rfl, hq, aw⟩ := a10.get hx
              have usl := a11.1
              rw [List.length_map, List.length_take] at usl
              refine ⟨rfl, ?_⟩
              show _
              have ha11 := Evl.ex_l (e010.trans e11) ha
              refine ⟨_, rfl, _, _, _, _, rfl, rfl, ha11, atb, _, rfl, _, _, _, _, rfl, rfl, ha11, atb, _, _, rfl, rfl, (by show 2 ≤ sizeLine; decide), fun t1 H12 m12 x12 h12 => ?_⟩
              refine ⟨(by show 1 ≤ sizeLine; decide), fun l1 H13 m13 x13 h13 => ?_⟩
              have hq13 := (x12.trans x13) _ _ (e11 _ _ hq)
              have wl : w5.length ≤ 12 := by
                rw [aw.1]
                have := cost_len p2w (List.mem_of_getElem? hT)
                omega
              refine ⟨_, rfl, _, _, _, _, rfl, rfl, h13, hq13, Nat.le_trans (show 1 + w5.length ≤ 13 by omega) (by decide), fun r H14 m14 x14 h14 => ?_⟩
              obtain ⟨d14, a14, e14⟩ := comp [b, b + 1] (sqI h10) a10 hD2 i H11 us q w5 Tq e11 d11 a11 hT (e11 _ _ hq) (aw.mono fun v t r => r.ex e11) t1 l1 H12 H13 m12 x12 h12 m13 x13 h13 r H14 m14 x14 h14
              exact ⟨us, d14, Nat.lt_of_le_of_lt (show us.length ≤ 64 by omega) (by decide), us ++ [.ref r], e14, upd_same, a14⟩
            rintro H11 ⟨u11, e11, d11, a11⟩
            rw [ul10, List.take_length] at a11
            have e611 := e610.trans e11
            refine ⟨_, _, _, _, rfl, rfl, e611 _ _ d6, d11, ?_, fun p12 H12 n12 e12 h12 => ?_⟩
            · have l1 := a6.1
              have l2 := a11.1
              rw [List.length_map] at l1 l2
              exact Nat.le_trans (show u6.length + u11.length ≤ 128 by omega) (by decide)
            refine ⟨p12, _, rfl, e06.trans (e611.trans e12), h12, ?_⟩
            unfold waysA
            rw [if_pos hd]
            exact AllR.append (a6'.mono fun v T r => r.ex (e611.trans e12)) (a11.mono fun v T r => r.cv.ex e12)
          · refine ifF (decide_eq_false fun z => hd (ehd.mp z)) ?_
            refine ⟨D, u6, rfl, e08, (e7.trans e8) _ _ d6, ?_⟩
            unfold waysA
            rw [if_neg hd, List.append_nil]
            exact a6'.mono fun v T r => r.ex (e7.trans e8)
        rintro σ H7 ⟨W, us, rfl, e7, hW, aW⟩
        have wl := aW.1
        have wlen : (waysA b ps).length ≤ 128 := by
          unfold waysA
          have al2 := cnt_len (ps := ps.tail) (by rw [List.length_tail]; omega)
          rw [List.length_append, List.length_map]
          split
          · rw [List.length_map]
            omega
          · show _ + 0 ≤ _
            omega
        obtain ⟨lst1, T0, hT0, lT0⟩ := ways_least pw
        -- the least
        refine ⟨_, rfl, W, rfl, ⟨_, sqI hW⟩, fun D3 hD3 => lc_mapL (K := K) (a := W) (ys := ((waysA b ps).map fun T => (T.length : Int)).map V.int) (sqI hW) hD3 (by rw [List.length_map, List.length_map, wl]) (Nat.le_trans (show us.length ≤ 128 by omega) (by decide)) (fun x => rfl) ?_ ?_⟩
        · intro i x y H' e' hx hy Rr kR
          obtain ⟨Tq, hT, q, w5, rfl, hq, aw⟩ := aW.get hx
          rw [List.getElem?_map, List.getElem?_map, hT] at hy
          cases hy
          refine ⟨_, rfl, _, _, rfl, .inl (sqI (e' _ _ hq)), ?_⟩
          show Rr (.int ((w5.length : Nat) : Int)) _
          rw [aw.1]
          exact kR H' (Evl.Ex.refl _)
        intro H8 e8 d8
        refine ⟨D3, _, rfl, sqI d8, ?_, fun m hm hle => ?_⟩
        · rw [List.length_map]
          exact List.length_pos_iff.mpr (List.ne_nil_of_mem hT0)
        have em : m = costP (b :: ps) := by
          obtain ⟨T1, hT1, rfl⟩ := List.mem_map.mp hm
          have h1 := lst1 T1 hT1
          have h2 := hle _ (List.mem_map.mpr ⟨T0, hT0, rfl⟩)
          omega
        subst em
        have hW8 := e8 _ _ hW
        refine ⟨_, rfl, W, rfl, ⟨_, sqI hW8⟩, fun D4 hD4 => lc_filtO (K := K) (a := W) (xs := us) (ys := waysA b ps) (R := CvR K H8) (p := fun T => decide ((T.length : Int) = costP (b :: ps))) (sqI hW8) (aW.mono fun v T r => r.ex e8) hD4 (Nat.le_trans (show us.length ≤ 128 by omega) (by decide)) (fun x => rfl) ?_ ?_ ?_⟩
        · intro v T H' _ rv e' Z kZ
          obtain ⟨q, w5, rfl, hq, aw⟩ := rv
          refine ⟨_, rfl, _, _, rfl, .inl (sqI (e' _ _ hq)), _, rfl, rfl, _, rfl, ?_⟩
          rw [decInt, aw.1]
          exact kZ H' (Evl.Ex.refl _)
        · intro v H' N kN
          exact ⟨_, rfl, kN⟩
        intro H9 us9 e9 d9 a9
        obtain ⟨L, hL⟩ : ∃ L, L = (waysA b ps).filter fun T => decide ((T.length : Int) = costP (b :: ps)) := ⟨_, rfl⟩
        have srt := ways_sorted pw
        rw [← hL] at srt
        have aL : AllR (CvR K H9) us9 L := by
          rw [hL]
          exact a9.mono fun v T r => r.ex e9
        refine ⟨D4, us9, L.map eCov, rfl, sqI d9, aL.dp fun v T r => r.dp, PySem.W.AllAlike.of alike_cov, PySem.W.Sortable.others fun T => ⟨(by intro z; cases z), (by intro xs z; cases z)⟩, fun d hd => ?_, fun p H10 n10 e10 h10 => ?_⟩
        · obtain ⟨T1, _, rfl⟩ := List.mem_map.mp hd
          exact Nat.le_trans (goodCov.dep T1) (by decide)
        have as := AllR.sort eCov (aL.mono fun v T r => r.ex e10)
        rw [srt] at as
        exact k p H10 _ (none_of (e7.trans (e8.trans e9)) n10) (e7.trans (e8.trans (e9.trans e10))) h10 as
end
end K31
set_option Elab.async false
set_option pp.maxSteps 1200
set_option linter.all false
set_option maxRecDepth 100000
set_option maxHeartbeats 4000000
namespace K31
open PySem L2 My
theorem le40 {x : Nat} (h : x ≤ 500) : x < sizeLine := Nat.lt_of_le_of_lt h (by decide)
def tailsD : List Int → List (Int × Int)
  | [] => [(0, 1)]
  | b :: ps => numD (b :: ps) :: tailsD ps
def nwD (b : Int) (S : List Int) : List (Int × Int) := ((numD S).1 + 1, (numD S).2) :: if S.head? = some (b + 1) then [((numD S.tail).1 + 1, (numD S.tail).2)] else []
theorem tails_at : ∀ (S : List Int), (tailsD S)[0]? = some (numD S) ∧ (S ≠ [] → (tailsD S)[1]? = some (numD S.tail))
  | [] => ⟨rfl, fun h => absurd rfl h⟩
  | b :: ps => ⟨rfl, fun _ => (tails_at ps).1⟩
theorem tails_len : ∀ (S : List Int), (tailsD S).length = S.length + 1
  | [] => rfl
  | b :: ps => by
    show (tailsD ps).length + 1 = _
    rw [tails_len ps]
    rfl
theorem nw_num (b : Int) (S : List Int) {m : Int} (h1 : m ∈ (nwD b S).map (·.1)) (h2 : ∀ y ∈ (nwD b S).map (·.1), m ≤ y) : (m, (((nwD b S).filter fun x => decide (x.1 = m)).map (·.2)).sum) = numD (b :: S) := by
  unfold nwD at *
  cases S with
  | nil =>
    have h1 : m ∈ [(0 : Int) + 1] := h1
    have em : m = 1 := by simpa using h1
    subst em
    rfl
  | cons c qs =>
    have hd : ((c :: qs).head? = some (b + 1)) ↔ c = b + 1 := by simp
    rw [show numD (b :: c :: qs) = joinN ((numD (c :: qs)).1 + 1, (numD (c :: qs)).2) (if c = b + 1 then some ((numD qs).1 + 1, (numD qs).2) else none) from rfl]
    by_cases cb : c = b + 1
    · rw [if_pos (hd.mpr cb)] at *
      rw [if_pos cb]
      unfold joinN
      show (m, _) = if (numD qs).1 + 1 < (numD (c :: qs)).1 + 1 then ((numD qs).1 + 1, (numD qs).2) else if (numD qs).1 + 1 = (numD (c :: qs)).1 + 1 then ((numD (c :: qs)).1 + 1, (numD (c :: qs)).2 + (numD qs).2) else ((numD (c :: qs)).1 + 1, (numD (c :: qs)).2)
      have h1 : m ∈ [(numD (c :: qs)).1 + 1, (numD qs).1 + 1] := h1
      have h2 : ∀ y ∈ [(numD (c :: qs)).1 + 1, (numD qs).1 + 1], m ≤ y := h2
      generalize numD (c :: qs) = x at h1 h2 ⊢
      have et : (c :: qs).tail = qs := rfl
      rw [et]
      generalize numD qs = y at h1 h2 ⊢
      have a1 := h2 (x.1 + 1) (by simp)
      have a2 := h2 (y.1 + 1) (by simp)
      have a3 : m = x.1 + 1 ∨ m = y.1 + 1 := by simpa using h1
      by_cases z1 : y.1 + 1 < x.1 + 1
      · rw [if_pos z1]
        have em : m = y.1 + 1 := by omega
        subst em; simp [List.filter_cons, show ¬ x.1 = y.1 by omega]
      · rw [if_neg z1]
        by_cases z2 : y.1 + 1 = x.1 + 1
        · rw [if_pos z2]
          have em : m = x.1 + 1 := by omega
          subst em; simp [List.filter_cons, show y.1 = x.1 by omega]
        · rw [if_neg z2]
          have em : m = x.1 + 1 := by omega
          subst em; simp [List.filter_cons, show ¬ y.1 = x.1 by omega]
    · rw [if_neg (fun z => cb (hd.mp z))] at *
      rw [if_neg cb]
      have h1 : m ∈ [(numD (c :: qs)).1 + 1] := h1
      have em : m = (numD (c :: qs)).1 + 1 := by simpa using h1
      unfold joinN
      subst em; simp [List.filter_cons]
def sp__law_marks (K : PySem.W.Frag) : Sp := fun vs H Q _ => ∃ (j t : Addr) (B : Int) (ns : List Int), vs = [.ref j, .ref t] ∧ Jug H j B ∧ B ≤ 2 ^ 45 ∧ t ≠ j ∧ H t = some (.lst (ns.map V.int)) ∧ ns.Nodup ∧ ns.length ≤ 40 ∧
  ∀ (p : Addr) (H' : Hp) (ms : List Int), H p = none → Exj j H H' → p ≠ j → Jug H' j (B + 300) → H' p = some (.lst (ms.map V.int)) → ms.Pairwise (· < ·) → (∀ r ∈ ms, r ∈ ns) → Q (.ref p) H'
def sp_idle_clicks (K : PySem.W.Frag) : Sp := fun vs H Q _ => ∃ (a b : Addr) (ns : List Int) (xs : List V) (mv : List Mv), vs = [.ref a, .ref b] ∧ SqL K H a (ns.map V.int) ∧ SqL K H b xs ∧ ns.Nodup ∧ ns.length ≤ 100 ∧ Cls K H xs (mv.map clM) ∧ (∀ m ∈ mv, m.2 < ns.length) ∧ mv.length ≤ 500 ∧ ∀ p H', H p = none → Ex H H' → H' p = some (.lst (((upN mv.length).filter fun i => !decide (i ∈ (bdA ns.length mv).map (mdA ns.length mv mv.length))).map V.int)) → Q (.ref p) H'
theorem step_ok {ns : List Int} (nd : ns.Nodup) (h : ns.length ≤ 40) : (stepV ns none 2).Nodup ∧ (∀ r ∈ stepV ns none 2, r ∈ ns) ∧ (stepV ns none 2).length ≤ 40 := by
  have dec : ∀ n : Fin 41, (stepIx n.1 none 2).Nodup ∧ (stepIx n.1 none 2).length ≤ 40 := by decide +kernel
  obtain ⟨d1, d2⟩ := dec ⟨ns.length, by omega⟩
  unfold stepV
  refine ⟨?_, fun r hr => ?_, Nat.le_trans (List.length_filterMap_le ..) d2⟩
  · unfold List.Nodup
    rw [List.pairwise_filterMap]
    refine d1.imp fun {a b} hab x hx y hy e => hab ?_
    subst e
    exact inj_at nd hx hy
  · obtain ⟨i, _, hi⟩ := List.mem_filterMap.mp hr
    exact List.mem_of_getElem? hi
section
variable {w : World} {K : PySem.W.Frag} {mg : Str → Option Value} {base : Heap}
theorem ok__law_number (T : Txt K mg) : FnOk PR w K mg base CX0 1 T.a__law_number T.d__law_number ["_law_found"] (sp__law_number K) := by
  refine T.f__law_number.ok sc__law_number (fun vs H Q E h => ?_) (fun cdv A outer s H vs Q E hr h => ?_)
  · obtain ⟨a, ps, rfl, _⟩ := h
    rfl
  · obtain ⟨a, ps, rfl, ha, pw, pl, k⟩ := h
    refine ⟨_, (pss_cons (ps_set (i := 1) sc__law_number.nd rfl (by first | exact Or.inl rfl | exact Or.inr rfl) (pe_lstG (pa_cons (pe_tupG (pa_cons pe_int (pa_cons pe_int pa_nil))) pa_nil))) (pss_cons (ps_for PassesOwn.never rfl (pi_range3 (by rfl) T.z_range (pa_cons (pe_op op_sub (pe_callB call_len_seq (by rfl) T.z_len PySem.boot_len (pa_cons (pv 0) pa_nil)) pe_int) (pa_cons (pe_un un_neg pe_int) (pa_cons (pe_un un_neg pe_int) pa_nil)))) (pg_name (i := 2) sc__law_number.nd rfl (by first | exact Or.inl rfl | exact Or.inr rfl)) (pss_cons (ps_set (i := 3) sc__law_number.nd rfl (by first | exact Or.inl rfl | exact Or.inr rfl) (pe_lstG (pa_cons (pe_tupG (pa_cons (pe_op op_add (pe_ix ix_tup (pe_ix ix_list (pv 1) pe_int (fun _ _ => rfl)) pe_int (fun _ _ => rfl)) pe_int) (pa_cons (pe_ix ix_tup (pe_ix ix_list (pv 1) pe_int (fun _ _ => rfl)) pe_int (fun _ _ => rfl)) pa_nil))) pa_nil))) (pss_cons (ps_cut (ps_if (PW.pt (pw_and (pt_cmpR op_lt (pe_op op_add (pv 2) pe_int) (pe_callB call_len_seq (by rfl) T.z_len PySem.boot_len (pa_cons (pv 0) pa_nil)) (nomark _)) (pw_and1 (pt_cmpR op_eq (pe_ix ix_list (pv 0) (pe_op op_add (pv 2) pe_int) (fun _ _ => rfl)) (pe_op op_add (pe_ix ix_list (pv 0) (pv 2) (fun _ _ => rfl)) pe_int) (nomark _))))) (pss_one (ps_expr (pe_bm PySem.F.plainAttrs_list PySem.F.slot_list_append PySem.F.type_list_append mt_append (pv 3) (pa_cons (pe_tupG (pa_cons (pe_op op_add (pe_ix ix_tup (pe_ix ix_list (pv 1) pe_int (fun _ _ => rfl)) pe_int (fun _ _ => rfl)) pe_int) (pa_cons (pe_ix ix_tup (pe_ix ix_list (pv 1) pe_int (fun _ _ => rfl)) pe_int (fun _ _ => rfl)) pa_nil))) pa_nil)))) pss_nil)) (pss_cons (ps_set (i := 4) sc__law_number.nd rfl (by first | exact Or.inl rfl | exact Or.inr rfl) (pe_callB (cr_min rfl) (by rfl) T.z_min (by decide +kernel) (pa_cons (pe_lc (own := [("_law_size", 5), ("_law_number_here", 6)]) (g := (gTup K 2 (gCons (gName 5) (gCons (gName 6) gNil)))) (by rfl) sc__law_number.nd (pi_list (pv 3)) (blkOk_by (own := [("_law_size", 5), ("_law_number_here", 6)]) (N := ["_law_found", "_law_told", "_law_place", "_law_ways", "_law_least", "_law_size", "_law_number_here"]) (sc := (defScope s__law_number)) (by decide +kernel)) (fun _ _ _ _ _ => (pg_tup rfl (pgs_cons (pg_name (i := 5) sc__law_number.nd rfl (by first | exact Or.inl rfl | exact Or.inr rfl)) (pgs_cons (pg_name (i := 6) sc__law_number.nd rfl (by first | exact Or.inl rfl | exact Or.inr rfl)) pgs_nil)))) (fun _ _ _ _ _ => pts_nil) (fun _ _ _ _ _ => (pv 5))) pa_nil))) (pss_one (ps_set (i := 1) sc__law_number.nd rfl (by first | exact Or.inl rfl | exact Or.inr rfl) (pe_op op_catG (pe_lstG (pa_cons (pe_tupG (pa_cons (pv 4) (pa_cons (pe_callB (cr_sum rfl) (by rfl) T.z_sum (by decide +kernel) (pa_cons (pe_lc (own := [("_law_size", 5), ("_law_number_here", 6)]) (g := (gTup K 2 (gCons (gName 5) (gCons (gName 6) gNil)))) (by rfl) sc__law_number.nd (pi_list (pv 3)) (blkOk_by (own := [("_law_size", 5), ("_law_number_here", 6)]) (N := ["_law_found", "_law_told", "_law_place", "_law_ways", "_law_least", "_law_size", "_law_number_here"]) (sc := (defScope s__law_number)) (by decide +kernel)) (fun _ _ _ _ _ => (pg_tup rfl (pgs_cons (pg_name (i := 5) sc__law_number.nd rfl (by first | exact Or.inl rfl | exact Or.inr rfl)) (pgs_cons (pg_name (i := 6) sc__law_number.nd rfl (by first | exact Or.inl rfl | exact Or.inr rfl)) pgs_nil)))) (fun _ _ _ _ _ => (pts_one (pt_cmpR op_eq (pv 5) (pv 4) (nomark _)))) (fun _ _ _ _ _ => (pv 6))) pa_nil)) pa_nil))) pa_nil)) (pv 1)))))))) (pss_one (ps_ret (pe_ix ix_list (pv 1) pe_int (fun _ _ => rfl)))))), ?_⟩
    refine ⟨(by show 2 ≤ sizeLine; decide), fun p1 H1 n1 e1 h1 => ?_⟩
    refine ⟨(by show 1 ≤ sizeLine; decide), fun p2 H2 n2 e2 h2 => ?_⟩
    have e02 := e1.trans e2
    refine ⟨_, rfl, _, _, rfl, .inl (Evl.ex_l e02 ha), _, _, rfl, rfl, _, rfl, _, rfl, _, _, _, _, rfl, RgC.neg (by rw [List.length_map]; omega) (by rw [List.length_map]; omega) (by decide) (by decide), for_rangeC (fun i σ H' => ∃ (W : Addr) (us : List V) (v2 v3 v4 v5 v6 : Option V), σ = [some (.ref a), some (.ref W), v2, v3, v4, v5, v6] ∧ Ex H H' ∧ H' W = some (.lst us) ∧ AllR (BkR K H') us (tailsD (ps.drop (ps.length - i)))) ⟨p2, _, _, _, _, _, _, rfl, e02, h2, ?_⟩ ?_ ?_⟩
    · rw [Nat.sub_zero, List.drop_length]
      exact AllR.one ⟨p1, rfl, sqT (e2 _ _ h1)⟩
    · rintro i σ H3 hi ⟨W, us, v2, v3, v4, v5, v6, rfl, e3, hW, aW⟩
      rw [List.length_map] at hi
      have hip : i < ps.length := by omega
      obtain ⟨p, hp⟩ : ∃ p, p = ps.length - 1 - i := ⟨_, rfl⟩
      have ep : ((ps.map V.int).length : Int) - 1 + (i : Nat) * (-1) = (p : Nat) := by rw [List.length_map]; omega
      rw [ep]
      obtain ⟨S, hS⟩ : ∃ S, S = ps.drop (p + 1) := ⟨_, rfl⟩
      have d1 : ps.length - i = p + 1 := by omega
      have d2 : ps.length - (i + 1) = p := by omega
      have hb : ps[p]? = some (ps[p]'(by omega)) := List.getElem?_eq_getElem (by omega)
      obtain ⟨b, eb⟩ : ∃ b, b = ps[p]'(by omega) := ⟨_, rfl⟩
      rw [← eb] at hb
      have dS : ps.drop p = b :: S := by rw [List.drop_eq_getElem_cons (by omega), ← eb, hS]
      rw [d1, ← hS] at aW
      rw [d2, dS]
      obtain ⟨t0, t1⟩ := tails_at S
      obtain ⟨v0, hv0, q0, rfl, sq0⟩ := aW.row t0
      have a0 : atI us 0 = some (.ref q0) := atI_nat (j := 0) hv0
      have usl := aW.1
      rw [tails_len] at usl
      have Sl : S.length ≤ 100 := by rw [hS, List.length_drop]; omega
      have hWs := sqI (K := K) hW
      -- ways
      refine ⟨_, rfl, _, _, _, _, rfl, rfl, hWs, a0, _, _, _, _, rfl, rfl, sq0, at0, _, _, rfl, rfl, _, rfl, _, _, _, _, rfl, rfl, hWs, a0, _, _, _, _, rfl, rfl, sq0, at1, (by show 2 ≤ sizeLine; decide), fun p4 H4 n4 e4 h4 => ?_⟩
      refine ⟨(by show 1 ≤ sizeLine; decide), fun p5 H5 n5 e5 h5 => ?_⟩
      have e35 := e4.trans e5
      have e05 := e3.trans e35
      have w1 : BkR K H5 (.ref p4) ((numD S).1 + 1, (numD S).2) := ⟨p4, rfl, sqT (e5 _ _ h4)⟩
      have ha5 := Evl.ex_l e05 ha
      have hW5 := e35 _ _ hW
      have len : ((ps.map V.int).length : Int) = ps.length := by rw [List.length_map]
      refine st_eq (σ' := [some (.ref a), some (.ref W), some (.int (p : Nat)), some (.ref p5), v4, v5, v6]) (P := fun σ => tSeq _ _ _ σ H5) rfl ?_
      refine ⟨fun σ' H' => ∃ (us : List V), σ' = [some (.ref a), some (.ref W), some (.int (p : Nat)), some (.ref p5), v4, v5, v6] ∧ Ex H H' ∧ Ex H3 H' ∧ H' p5 = some (.lst us) ∧ AllR (BkR K H') us (nwD b S), ?_, ?_⟩
      · have one : S.head? ≠ some (b + 1) → AllR (BkR K H5) [V.ref p4] (nwD b S) := fun h => by
          unfold nwD
          rw [if_neg h]
          exact AllR.one w1
        refine ⟨_, rfl, _, _, rfl, rfl, _, rfl, _, _, rfl, .inl ha5, _, _, rfl, rfl, _, rfl, ?_⟩
        rw [len]
        refine ifB (fun c => ?_) (fun c => ?_)
        · have c : ((p : Nat) : Int) + 1 < ps.length := of_decide_eq_true c
          have hc : ps[p + 1]? = some (ps[p + 1]'(by omega)) := List.getElem?_eq_getElem (by omega)
          obtain ⟨x, ex⟩ : ∃ x, x = ps[p + 1]'(by omega) := ⟨_, rfl⟩
          rw [← ex] at hc
          have hd : S.head? = some x := by rw [hS, List.head?_drop]; exact hc
          have atx : atI (ps.map V.int) (((p : Nat) : Int) + 1) = some (.int x) := at_of (j := p + 1) (by omega) (by rw [List.getElem?_map, hc]; rfl)
          have atb : atI (ps.map V.int) ((p : Nat) : Int) = some (.int b) := atI_nat (j := p) (by rw [List.getElem?_map, hb]; rfl)
          refine ⟨_, rfl, _, rfl, _, _, rfl, rfl, _, _, _, _, rfl, rfl, ha5, atx, _, rfl, _, rfl, _, _, _, _, rfl, rfl, ha5, atb, _, _, rfl, rfl, rfl, _, rfl, ?_⟩
          rw [decInt]
          refine ifB (fun c2 => ?_) (fun c2 => ?_)
          · have c2 : x = b + 1 := of_decide_eq_true c2
            have Sne : S ≠ [] := by
              intro z
              rw [z] at hd
              cases hd
            obtain ⟨vt, hvt, qt, rfl, sqt⟩ := aW.row (t1 Sne)
            have at1' : atI us 1 = some (.ref qt) := atI_nat (j := 1) hvt
            have sqt5 := Evl.ex_t e35 sqt
            refine ⟨_, rfl, .inl ⟨rfl, _, sqI h5⟩, _, rfl, _, _, _, _, rfl, rfl, sqI hW5, at1', _, _, _, _, rfl, rfl, sqt5, at0, _, _, rfl, rfl, _, rfl, _, _, _, _, rfl, rfl, sqI hW5, at1', _, _, _, _, rfl, rfl, sqt5, at1, (by show 2 ≤ sizeLine; decide), fun p6 H6 n6 e6 h6 => ?_⟩
            have h56 := e6 _ _ h5
            have p65 : p6 ≠ p5 := (ne_of_none h5 n6).symm
            refine ⟨_, _, _, rfl, rfl, h56, le40 (by show 1 ≤ 500; omega), ?_⟩
            have xj : Exj p5 H6 (upd H6 p5 (.lst ([V.ref p4] ++ [.ref p6]))) := (Exj.refl _ _).upd
            have n05 : H p5 = none := none_of (e3.trans e4) n5
            have n35 : H3 p5 = none := none_of e4 n5
            refine ⟨_, rfl, Evl.Ex.mut (e05.trans e6) n05, Evl.Ex.mut (e35.trans e6) n35, upd_same, ?_⟩
            unfold nwD
            rw [if_pos (by rw [hd, c2])]
            exact (AllR.one ((w1.ex e6).exj xj h56)).snoc ⟨p6, rfl, sqT (by rw [upd_ne p65]; exact h6)⟩
          · have c2 : ¬ x = b + 1 := of_decide_eq_false c2
            refine ⟨_, rfl, e05, e35, h5, one fun z => c2 ?_⟩
            rw [hd] at z
            exact Option.some.inj z
        · have c : ¬ ((p : Nat) : Int) + 1 < ps.length := of_decide_eq_false c
          have S0 : S = [] := by
            rw [hS]
            exact List.drop_eq_nil_of_le (by omega)
          refine ⟨_, rfl, e05, e35, h5, one ?_⟩
          rw [S0]
          exact fun z => nomatch z
      rintro σ H6 ⟨uw, rfl, e06, e36, h6, aw⟩
      have uwl := aw.1
      have nwl : (nwD b S).length ≤ 2 := by
        unfold nwD
        split
        · show 2 ≤ 2; omega
        · show 1 ≤ 2; omega
      -- the least
      refine ⟨_, rfl, p5, rfl, ⟨_, sqI h6⟩, fun D hD => lc_mapG (K := K) (a := p5) (xs := uw) (ys := ((nwD b S).map (·.1)).map V.int) (sqI h6) hD (by rw [List.length_map, List.length_map, uwl]) (Nat.le_trans (show uw.length ≤ 2 by omega) (by decide)) ?_ ?_⟩
      · intro i x y H' e' hx hy N Z kN
        obtain ⟨t, ht, q, rfl, hq⟩ := aw.get hx
        rw [List.getElem?_map, List.getElem?_map, ht] at hy
        cases hy
        refine ⟨_, _, rfl, Evl.ex_t e' hq, rfl, _, _, rfl, _, _, rfl, rfl, rfl, ?_⟩
        exact ⟨_, rfl, kN H' (Evl.Ex.refl _)⟩
      intro H7 e7 d7
      refine ⟨D, _, rfl, sqI d7, by unfold nwD; rw [List.map_cons, List.length_cons]; omega, fun m hm hle => ?_⟩
      have fin := nw_num b S hm hle
      have h67 := e7 _ _ h6
      refine st_eq (σ' := [some (.ref a), some (.ref W), some (.int (p : Nat)), some (.ref p5), some (.int m), v5, v6]) (P := fun σ => tSeq _ _ _ σ H7) rfl ?_
      -- the sum
      refine ⟨_, rfl, _, rfl, p5, rfl, ⟨_, sqI h67⟩, fun D2 hD2 => lc_it (walk_list (K := K) (a := p5) (xs := uw)) (fun i H' => Ex H7 H' ∧ H' D2 = some (.lst (((((nwD b S).take i).filter fun x => decide (x.1 = m)).map (·.2)).map V.int))) ⟨Evl.Ex.new hD2, upd_same⟩ (fun i H' _ z => sqI (z.1 _ _ h67)) ?_ ?_⟩
      · rintro i x HX H8 hi ⟨e8, d8⟩ ⟨rfl, hx⟩
        obtain ⟨t, ht, q, rfl, hq⟩ := aw.get hx
        refine ⟨_, _, rfl, Evl.ex_t (e7.trans e8) hq, rfl, _, _, rfl, _, _, rfl, rfl, rfl, ?_⟩
        refine ⟨_, rfl, _, rfl, rfl, _, rfl, ?_⟩
        rw [decInt, take_snoc ht, List.filter_append, List.filter_cons, List.filter_nil]
        refine ifB (fun c => ?_) (fun c => ?_)
        · refine ⟨_, rfl, _, d8, ?_, Evl.Ex.mut e8 hD2, ?_⟩
          · rw [List.length_map, List.length_map]
            have l1 := List.length_filter_le (fun x : Int × Int => decide (x.1 = m)) ((nwD b S).take i)
            have l2 := List.length_take_le i (nwD b S)
            exact le40 (by omega)
          · rw [upd_same, c, if_pos rfl, List.map_append, List.map_append]
            rfl
        · refine ⟨e8, ?_⟩
          rw [c, if_neg Bool.false_ne_true, List.append_nil]
          exact d8
      rintro H8 ⟨e8, d8⟩
      rw [uwl, List.take_length] at d8
      refine ⟨D2, _, rfl, sqI d8, ?_⟩
      refine ⟨(by show 2 ≤ sizeLine; decide), fun p9 H9 n9 e9 h9 => ?_⟩
      refine ⟨(by show 1 ≤ sizeLine; decide), fun p10 H10 n10 e10 h10 => ?_⟩
      have e610 := e7.trans (e8.trans (e9.trans e10))
      have hW10 := (e36.trans e610) _ _ hW
      refine ⟨_, rfl, _, _, _, _, rfl, rfl, h10, hW10, Nat.le_trans (show 1 + us.length ≤ 200 by omega) (by decide), fun p11 H11 n11 e11 h11 => ?_⟩
      refine ⟨p11, _, _, _, _, _, _, rfl, e06.trans (e610.trans e11), h11, ?_⟩
      have et : tailsD (b :: S) = [numD (b :: S)] ++ tailsD S := rfl
      rw [et]
      refine AllR.append (AllR.one ⟨p9, rfl, ?_⟩) (aW.mono fun v x r => r.ex (e36.trans (e610.trans e11)))
      rw [← fin]
      exact sqT ((e10.trans e11) _ _ h9)
    · rintro σ H3 ⟨W, us, v2, v3, v4, v5, v6, rfl, e3, hW, aW⟩
      rw [List.length_map, show ((ps.length : Int) - 1 - -1).toNat = ps.length by omega, Nat.sub_self, List.drop_zero] at aW
      obtain ⟨v0, hv0, q0, rfl, sq0⟩ := aW.row (tails_at ps).1
      have a0 : atI us 0 = some (.ref q0) := atI_nat (j := 0) hv0
      rw [numD_eq ps pw] at sq0
      exact ⟨_, rfl, _, _, _, _, rfl, rfl, sqI hW, a0, k q0 H3 e3 sq0⟩
theorem ok__law_marks (T : Txt K mg) : FnOk PR w K mg base CX0 3 T.a__law_marks T.d__law_marks ["_law_source_here", "_law_there"] (sp__law_marks K) := by
  refine T.f__law_marks.ok sc__law_marks (fun vs H Q E h => ?_) (fun cdv A outer s H vs Q E hr h => ?_)
  · obtain ⟨j, t, B, ns, rfl, _⟩ := h
    rfl
  · obtain ⟨j, t, B, ns, rfl, hj, hB, tj, ht, nd, nl, k⟩ := h
    refine ⟨_, (pss_cons (ps_set (i := 2) sc__law_marks.nd rfl (by first | exact Or.inl rfl | exact Or.inr rfl) (pe_call (ok__law_draw T) (hr.mono (by decide)) (by rfl) T.g__law_draw T.f__law_draw.kp (b__law_draw T) .nil pass0 (pa_cons (pv 0) (pa_cons pe_int pa_nil)))) (pss_cons (ps_if (pt_cmpR op_eq (pv 2) pe_int (nomark _)) (pss_one (ps_ret (pe_callB cr_sortedG (by rfl) T.z_sorted (by decide +kernel) (pa_cons (pe_stepG (by decide) (pv 1) po_none) pa_nil)))) pss_nil) (pss_cons (ps_if (pt_cmpR op_eq (pv 2) pe_int (nomark _)) (pss_cons (ps_set (i := 3) sc__law_marks.nd rfl (by first | exact Or.inl rfl | exact Or.inr rfl) (pe_lstG pa_nil)) (pss_cons (ps_set (i := 4) sc__law_marks.nd rfl (by first | exact Or.inl rfl | exact Or.inr rfl) (pe_call (ok__law_draw T) (hr.mono (by decide)) (by rfl) T.g__law_draw T.f__law_draw.kp (b__law_draw T) .nil pass0 (pa_cons (pv 0) (pa_cons pe_int pa_nil)))) (pss_cons (ps_for PassesOwn.never rfl (pi_range1 (by rfl) T.z_range (pa_cons (pe_callB call_len_seq (by rfl) T.z_len PySem.boot_len (pa_cons (pv 1) pa_nil)) pa_nil)) (pg_name (i := 5) sc__law_marks.nd rfl (by first | exact Or.inl rfl | exact Or.inr rfl)) (pss_one (ps_if (pt_cmpR op_lt (pv 4) (pe_callB call_len_seq (by rfl) T.z_len PySem.boot_len (pa_cons (pv 1) pa_nil)) (nomark _)) (pss_cons (ps_expr (pe_bm PySem.F.plainAttrs_list PySem.F.slot_list_append PySem.F.type_list_append mt_append (pv 3) (pa_cons (pe_ix ix_list (pv 1) (pv 4) (fun _ _ => rfl)) pa_nil))) (pss_one (ps_set (i := 4) sc__law_marks.nd rfl (by first | exact Or.inl rfl | exact Or.inr rfl) (pe_op op_add (pv 4) (pe_ix ix_list (pe_lstG (pa_cons pe_int (pa_cons pe_int (pa_cons pe_int (pa_cons pe_int pa_nil))))) (pe_call (ok__law_draw T) (hr.mono (by decide)) (by rfl) T.g__law_draw T.f__law_draw.kp (b__law_draw T) .nil pass0 (pa_cons (pv 0) (pa_cons pe_int pa_nil))) (fun _ _ => rfl)))))) pss_nil))) (pss_one (ps_ret (pe_callB cr_sortedG (by rfl) T.z_sorted (by decide +kernel) (pa_cons (pv 3) pa_nil))))))) pss_nil) (pss_one (ps_ret (pe_callB cr_sortedG (by rfl) T.z_sorted (by decide +kernel) (pa_cons (pe_call (ok__law_some T) (hr.mono (by decide)) (by rfl) T.g__law_some T.f__law_some.kp (b__law_some T) .nil pass0 (pa_cons (pv 0) (pa_cons (pv 1) (pa_cons (pe_call (ok__law_draw T) (hr.mono (by decide)) (by rfl) T.g__law_draw T.f__law_draw.kp (b__law_draw T) .nil pass0 (pa_cons (pv 0) (pa_cons (pe_op op_add (pe_callB call_len_seq (by rfl) T.z_len PySem.boot_len (pa_cons (pv 1) pa_nil)) pe_int) pa_nil))) pa_nil)))) pa_nil))))))), ?_⟩
    refine ⟨_, rfl, j, _, _, rfl, hj, by omega, by decide, by decide, fun d1 H1 d1a d1b x1 j1 => ?_⟩
    have ht1 := x1 _ _ tj ht
    refine ⟨_, rfl, rfl, _, rfl, ?_⟩
    rw [decInt]
    refine ifB (fun c => ?_) (fun c => ?_)
    · obtain ⟨s1, s2, s3⟩ := step_ok nd nl
      refine ⟨_, rfl, _, _, rfl, sqI ht1, by rw [stepV_map, List.length_map]; exact Nat.le_trans s3 (by decide), fun p2 H2 n2 e2 h2 => ?_⟩
      rw [stepV_map] at h2
      refine ⟨p2, _, rfl, sqI h2, fun ms pr pw p3 H3 n3 e3 h3 => ?_⟩
      have x3 : Exj j H H3 := x1.trans (Exj.of (e2.trans e3))
      have p3j := (j1.ex e2).ne n3
      have n30 : H p3 = none := x3.back p3j |> fun f => by
        cases z : H p3 with
        | none => rfl
        | some o =>
          exfalso
          have := e2 _ _ (x1 _ _ p3j z)
          rw [n3] at this
          cases this
      exact k p3 H3 ms n30 x3 p3j ((j1.ex (e2.trans e3)).mono (by omega)) h3 (asc_of pr pw s1) fun r hr => s2 r (pr.mem_iff.mp hr)
    refine ⟨_, rfl, rfl, _, rfl, ?_⟩
    rw [decInt]
    refine ifB (fun c2 => ?_) (fun c2 => ?_)
    · refine ⟨(by show 0 ≤ sizeLine; decide), fun F H2 n2 e2 h2 => ?_⟩
      have Fj := j1.ne n2
      have n20 : H F = none := by
        cases z : H F with
        | none => rfl
        | some o =>
          exfalso
          have := x1 _ _ Fj z
          rw [n2] at this
          cases this
      refine ⟨_, rfl, j, _, _, rfl, j1.ex e2, by omega, by decide, by decide, fun d2 H3 d2a d2b x3 j3 => ?_⟩
      have x03 : Exj j H H3 := x1.trans ((Exj.of e2).trans x3)
      refine ⟨_, rfl, _, _, rfl, .inl (sqI (x03 _ _ tj ht)), _, rfl, by rw [List.length_map]; omega, by rw [List.length_map]; omega, for_range (lo := 0) (n := (((ns.map V.int).length : Nat) : Int).toNat) (fun i σ H' => ∃ (pl : Nat) (fs : List Int) (v5 : Option V), σ = [some (.ref j), some (.ref t), some (.int d1), some (.ref F), some (.int (pl : Nat)), v5] ∧ Exj j H H' ∧ Jug H' j (B + 2 + i) ∧ H' F = some (.lst (fs.map V.int)) ∧ fs.Nodup ∧ fs.length ≤ i ∧ ∀ x ∈ fs, ∃ i : Nat, i < pl ∧ ns[i]? = some x) ⟨d2.toNat, [], _, by rw [show (((d2.toNat : Nat)) : Int) = d2 by omega]; rfl, x03, j3.mono (by omega), x3 _ _ Fj h2, List.nodup_nil, Nat.le_refl _, fun x h => nomatch h⟩ ?_ ?_⟩
      · rintro i σ H4 hi ⟨pl, fs, v5, rfl, x4, j4, f4, fnd, fl, fin⟩
        rw [List.length_map] at hi
        have ht4 := x4 _ _ tj ht
        refine ⟨_, rfl, _, rfl, _, _, rfl, .inl (sqI ht4), _, _, rfl, rfl, _, rfl, ?_⟩
        refine ifB (fun c3 => ?_) (fun c3 => ?_)
        · have c3 : ((pl : Nat) : Int) < ((ns.map V.int).length : Nat) := of_decide_eq_true c3
          rw [List.length_map] at c3
          have hx : ns[pl]? = some (ns[pl]'(by omega)) := List.getElem?_eq_getElem (by omega)
          obtain ⟨x, ex⟩ : ∃ x, x = ns[pl]'(by omega) := ⟨_, rfl⟩
          rw [← ex] at hx
          have atx : atI (ns.map V.int) ((pl : Nat) : Int) = some (.int x) := atI_nat (j := pl) (by rw [List.getElem?_map, hx]; rfl)
          refine ⟨_, rfl, .inl ⟨rfl, _, sqI f4⟩, _, rfl, _, rfl, _, _, _, _, rfl, rfl, sqI ht4, atx, _, _, _, rfl, rfl, f4, le40 (by rw [List.length_map]; omega), ?_⟩
          have Ft : F ≠ t := by
            rintro rfl
            rw [n20] at ht
            cases ht
          have j5 : Jug (upd H4 F (.lst (fs.map V.int ++ [V.int x]))) j (B + 2 + i) := j4.upd Fj
          have x5 : Exj j H (upd H4 F (.lst (fs.map V.int ++ [V.int x]))) := fun b o nb hb => by
            rw [upd_ne (ne_of_none hb n20)]
            exact x4 b o nb hb
          have f5 : upd H4 F (.lst (fs.map V.int ++ [V.int x])) F = some (.lst (fs.map V.int ++ [V.int x])) := upd_same
          generalize upd H4 F (.lst (fs.map V.int ++ [V.int x])) = H5 at j5 x5 f5 ⊢
          refine ⟨_, rfl, (by show 4 ≤ sizeLine; decide), fun p6 H6 n6 e6 h6 => ?_⟩
          have p6j := j5.ne n6
          refine ⟨_, rfl, j, _, _, rfl, j5.ex e6, by omega, by decide, by decide, fun d7 H7 d7a d7b x7 j7 => ?_⟩
          obtain ⟨st, hst, at7⟩ : ∃ st : Nat, (1 ≤ st) ∧ atI [V.int 1, .int 2, .int 2, .int 3] d7 = some (.int (st : Nat)) := by
            rcases (show d7 = 0 ∨ d7 = 1 ∨ d7 = 2 ∨ d7 = 3 by omega) with z | z | z | z
            · exact ⟨1, by omega, by rw [z]; rfl⟩
            · exact ⟨2, by omega, by rw [z]; rfl⟩
            · exact ⟨2, by omega, by rw [z]; rfl⟩
            · exact ⟨3, by omega, by rw [z]; rfl⟩
          refine ⟨_, _, _, _, rfl, rfl, sqI (x7 _ _ p6j h6), at7, _, _, rfl, rfl, ?_⟩
          refine ⟨pl + st, fs ++ [x], _, by rw [show (((pl + st : Nat)) : Int) = (pl : Int) + (st : Int) by omega]; rfl, x5.trans ((Exj.of e6).trans x7), j7.mono (by omega), ?_, ?_, by rw [List.length_append]; show fs.length + 1 ≤ i + 1; omega, fun y hy => ?_⟩
          · rw [List.map_append]
            exact x7 _ _ Fj (e6 _ _ f5)
          · rw [List.nodup_append]
            refine ⟨fnd, by simp, fun y hy z hz e => ?_⟩
            rw [List.mem_singleton.mp hz] at e
            subst e
            obtain ⟨i', h1, h2⟩ := fin y hy
            have := inj_at nd h2 hx
            omega
          · rcases List.mem_append.mp hy with z | z
            · obtain ⟨i', h1, h2⟩ := fin y z
              exact ⟨i', by omega, h2⟩
            · rw [List.mem_singleton.mp z]
              exact ⟨pl, by omega, hx⟩
        · exact ⟨pl, fs, _, rfl, x4, j4.mono (by omega), f4, fnd, by omega, fin⟩
      · rintro σ H4 ⟨pl, fs, v5, rfl, x4, j4, f4, fnd, fl, fin⟩
        rw [List.length_map] at j4
        refine ⟨_, rfl, F, fs, rfl, sqI f4, fun ms pr pw p5 H5 n5 e5 h5 => ?_⟩
        have p5j := j4.ne n5
        have n50 : H p5 = none := by
          cases z : H p5 with
          | none => rfl
          | some o =>
            exfalso
            have := x4 _ _ p5j z
            rw [n5] at this
            cases this
        refine k p5 H5 ms n50 (x4.trans (Exj.of e5)) p5j ((j4.ex e5).mono (by omega)) h5 (asc_of pr pw fnd) fun r hr => ?_
        obtain ⟨i', h1, h2⟩ := fin r (pr.mem_iff.mp hr)
        exact List.mem_of_getElem? h2
    · refine ⟨_, rfl, _, rfl, _, rfl, _, rfl, _, _, rfl, .inl (sqI ht1), _, _, rfl, rfl, j, _, _, rfl, j1, by omega, by rw [List.length_map]; omega, ?_, fun d2 H2 d2a d2b x2 j2 => ?_⟩
      · rw [List.length_map]
        have : ((2 : Int) ^ 200) > 1000 := by decide
        omega
      rw [List.length_map] at d2b
      have ht2 := x2 _ _ tj ht1
      refine ⟨j, t, d2, _, ns, rfl, j2, by omega, sqI ht2, by omega, by omega, by omega, fun p3 H3 ts ls n3 x3 p3j j3 h3 pm tl => ?_⟩
      have tnd : ts.Nodup := (List.nodup_append.mp (pm.nodup_iff.mpr nd)).1
      refine ⟨p3, ts, rfl, sqI h3, fun ms pr pw p4 H4 n4 e4 h4 => ?_⟩
      have x4 : Exj j H H3 := x1.trans (x2.trans x3)
      have p4j := j3.ne n4
      have n40 : H p4 = none := by
        cases z : H p4 with
        | none => rfl
        | some o =>
          exfalso
          have := x4 _ _ p4j z
          rw [n4] at this
          cases this
      exact k p4 H4 ms n40 (x4.trans (Exj.of e4)) p4j ((j3.ex e4).mono (by omega)) h4 (asc_of pr pw tnd) fun r hr => pm.mem_iff.mp (List.mem_append_left _ (pr.mem_iff.mp hr))
theorem ok_idle_clicks (T : Txt K mg) : FnOk PR w K mg base (L2.CX PR w) 4 T.a_idle_clicks T.d_idle_clicks ["there", "clicks"] (sp_idle_clicks K) := by
  refine T.f_idle_clicks.okX sc_idle_clicks (fun vs H Q E h => ?_) (fun cdv A outer s H vs Q E hr h => ?_)
  · obtain ⟨a, b, ns, xs, mv, rfl, _⟩ := h
    rfl
  · obtain ⟨a, b, ns, xs, mv, rfl, ha, hb, nd, nl, hc, ok, ml, k⟩ := h
    refine ⟨_, (pss_cons (ps_expr (pe_call (ok_check_there T) (hr.mono (by decide)) (by rfl) T.g_check_there T.f_check_there.kp (b_check_there T) .nil passX (pa_cons (pv 0) pa_nil))) (pss_cons (ps_expr (pe_call (ok_check_clicks T) (hr.mono (by decide)) (by rfl) T.g_check_clicks T.f_check_clicks.kp (b_check_clicks T) .nil passX (pa_cons (pv 0) (pa_cons (pv 1) pa_nil)))) (pss_cons (ps_set (i := 2) sc_idle_clicks.nd rfl (by first | exact Or.inl rfl | exact Or.inr rfl) (pe_lc (own := [("border", 3), ("index", 4)]) (g := (gTup K 2 (gCons (gName 3) (gCons (gName 4) gNil)))) (by rfl) sc_idle_clicks.nd (pi_list (pe_call (ok_makers_in T) (hr.mono (by decide)) (by rfl) T.g_makers_in T.f_makers_in.kp (b_makers_in T) .nil pass0 (pa_cons (pv 0) (pa_cons (pv 1) pa_nil)))) (blkOk_by (own := [("border", 3), ("index", 4)]) (N := ["there", "clicks", "used", "border", "index"]) (sc := (defScope s_idle_clicks)) (by decide +kernel)) (fun _ _ _ _ _ => (pg_tup rfl (pgs_cons (pg_name (i := 3) sc_idle_clicks.nd rfl (by first | exact Or.inl rfl | exact Or.inr rfl)) (pgs_cons (pg_name (i := 4) sc_idle_clicks.nd rfl (by first | exact Or.inl rfl | exact Or.inr rfl)) pgs_nil)))) (fun _ _ _ _ _ => pts_nil) (fun _ _ _ _ _ => (pv 4)))) (pss_one (ps_ret (pe_lc (own := [("index", 4)]) (g := gName 4) (by rfl) sc_idle_clicks.nd (pi_range1 (by rfl) T.z_range (pa_cons (pe_callB call_len_seq (by rfl) T.z_len PySem.boot_len (pa_cons (pv 1) pa_nil)) pa_nil)) (blkOk_by (own := [("index", 4)]) (N := ["there", "clicks", "used", "border", "index"]) (sc := (defScope s_idle_clicks)) (by decide +kernel)) (fun _ _ _ _ _ => (pg_name (i := 4) sc_idle_clicks.nd rfl (by first | exact Or.inl rfl | exact Or.inr rfl))) (fun _ _ _ _ _ => (pts_one (pt_cmpR (opK (r := fun K => rIn K true) (K := K) (by rfl) op_notIn_seq) (pv 4) (pv 2) (by rfl)))) (fun _ _ _ _ _ => (pv 4)))))))), ?_⟩
    have xl := hc.1
    rw [List.length_map] at xl
    refine ⟨_, rfl, a, ns, rfl, ha, nd, by omega, ?_⟩
    refine ⟨_, rfl, _, rfl, a, b, ns, xs, mv.map clM, rfl, ha, hb, hc, clok_mv ok, fun H1 e1 => ?_⟩
    refine ⟨_, rfl, _, rfl, a, b, ns, xs, mv, rfl, Evl.ex_l e1 ha, Evl.ex_l e1 hb, nd, nl, hc.ex e1, ok, fun p2 H2 us n2 e2 h2 a2 => ?_⟩
    have e02 := e1.trans e2
    have ul := a2.1
    have bl := bd_len ok
    have ul2 : us.length = (bdA ns.length mv).length := by
      rw [ul]
      unfold mkL
      rw [List.length_map]
    refine ⟨p2, rfl, ⟨_, sqI h2⟩, fun D hD => lc_mapG (K := K) (a := p2) (xs := us) (ys := ((bdA ns.length mv).map (mdA ns.length mv mv.length)).map V.int) (sqI h2) hD (by rw [List.length_map, List.length_map, ul2]) (Nat.le_trans (show us.length ≤ 200 by omega) (by decide)) ?_ ?_⟩
    · intro i x y H' e' hx hy N Z kN
      obtain ⟨md, hmd, rfl⟩ := mapI_get hy
      rw [List.getElem?_map] at hmd
      cases hbd : (bdA ns.length mv)[i]? with
      | none =>
        rw [hbd] at hmd
        cases hmd
      | some bd =>
        rw [hbd] at hmd
        cases hmd
        obtain ⟨q, rfl, hq⟩ := a2.2 i _ _ hx (by unfold mkL; rw [List.getElem?_map, hbd]; rfl)
        refine ⟨_, _, rfl, Evl.ex_t e' hq, rfl, _, _, rfl, _, _, rfl, rfl, rfl, ?_⟩
        exact ⟨_, rfl, kN H' (Evl.Ex.refl _)⟩
    intro H3 e3 d3
    have e03 := e02.trans e3
    refine ⟨_, rfl, _, _, rfl, .inl (Evl.ex_l e03 hb), _, rfl, by omega, by omega, fun D2 hD2 => lc_filtR (lo := 0) (n := ((xs.length : Nat) : Int).toNat) (p := fun i => !decide (i ∈ (bdA ns.length mv).map (mdA ns.length mv mv.length))) hD2 (by omega) (fun x => rfl) ?_ ?_ ?_⟩
    · intro o H' ho e' Z kZ
      refine ⟨_, rfl, _, rfl, _, _, rfl, .inl (sqI (e' _ _ d3)), rfl, flatI _, _, rfl, ?_⟩
      rw [inV_int]
      exact kZ H' (Evl.Ex.refl _)
    · intro v H' N kN
      exact ⟨_, rfl, kN⟩
    · intro H4 e4 d4
      refine k D2 H4 (none_of e03 hD2) (e03.trans e4) ?_
      rw [d4, show (((xs.length : Nat) : Int)).toNat = mv.length by omega]
      refine congrArg some (congrArg HO.lst (congrArg (List.map V.int) (congrArg (List.filter _) ?_)))
      unfold upN
      exact List.map_congr_left fun i _ => by omega
end
end K31
set_option Elab.async false
set_option pp.maxSteps 1200
set_option linter.all false
set_option maxRecDepth 100000
set_option maxHeartbeats 4000000
namespace K31
open PySem L2 My
theorem shwI {i : Int} (h : -1000 ≤ i ∧ i ≤ 1000) : Shw (.int i) 0 1921 := Shw.int (log_of (Nat.lt_of_lt_of_le (show i.natAbs < 2 ^ 10 by omega) (Nat.pow_le_pow_right (by decide) (by decide))))
theorem shwBk {k : Bk} (h : (-1000 ≤ k.1 ∧ k.1 ≤ 1000) ∧ (-1000 ≤ k.2 ∧ k.2 ≤ 1000)) : Shw (eB k) 1 3849 := by
  refine (Shw.tuple (n := 0) (M := 1921) (xs := [.int k.1, .int k.2]) fun x hx => ?_).mono (Nat.le_refl _) (by show 3 + 2 * (1921 + 2) ≤ 3849; decide)
  rcases List.mem_cons.mp hx with z | z
  · rw [z]; exact shwI h.1
  · rw [List.mem_singleton.mp z]; exact shwI h.2
theorem shwBks {L : List Bk} (hl : L.length ≤ 200) (h : ∀ k ∈ L, (-1000 ≤ k.1 ∧ k.1 ≤ 1000) ∧ (-1000 ≤ k.2 ∧ k.2 ≤ 1000)) : Shw (eL eB L) 60 sizeLine := by
  refine (Shw.list (n := 1) (M := 3849) (xs := L.map eB) fun x hx => ?_).mono (by decide) ?_
  · obtain ⟨k, hk, rfl⟩ := List.mem_map.mp hx
    exact shwBk (h k hk)
  · rw [List.length_map]
    exact Nat.le_trans (show 2 + L.length * (3849 + 2) ≤ 800000 by omega) (by decide)
theorem shwIs {L : List Int} (hl : L.length ≤ 200) (h : ∀ k ∈ L, -1000 ≤ k ∧ k ≤ 1000) : Shw (eL PyData.int L) 60 sizeLine := by
  refine (Shw.list (n := 0) (M := 1921) (xs := L.map PyData.int) fun x hx => ?_).mono (by decide) ?_
  · obtain ⟨k, hk, rfl⟩ := List.mem_map.mp hx
    exact shwI (h k hk)
  · rw [List.length_map]
    exact Nat.le_trans (show 2 + L.length * (1921 + 2) ≤ 800000 by omega) (by decide)
theorem bks_dp {K : PySem.W.Frag} {H : Hp} {p : Addr} {us : List V} {L : List Bk} (h : H p = some (.lst us)) (a : AllR (BkR K H) us L) : Dp K H (.ref p) (eL eB L) := .lst (sqI h) (a.dp fun v k r => r.dp)
def sp__law_makers_right (K : PySem.W.Frag) : Sp := fun vs H Q _ => ∃ (a b : Addr) (ns : List Int) (xs : List V) (mv : List Mv), vs = [.ref a, .ref b] ∧ SqL K H a (ns.map V.int) ∧ SqL K H b xs ∧ ns.Nodup ∧ ns.length ≤ 40 ∧ AllR (MvR K H) xs mv ∧ (∀ m ∈ mv, m.2 < ns.length) ∧ mv.length ≤ 100 ∧ Evl.RetV (.bl true) H Q
section
variable {w : World} {K : PySem.W.Frag} {mg : Str → Option Value} {base : Heap}
theorem ok__law_makers_right (T : Txt K mg) : FnOkG PR w K mg base CX0 5 T.a__law_makers_right T.d__law_makers_right ["_law_there", "_law_clicks_here"] (sp__law_makers_right K) := by
  refine T.f__law_makers_right.okG sc__law_makers_right (fun vs H Q E h => ?_) (fun cdv A0 outer s0 H vs Q E0 hr gd h => ?_)
  · obtain ⟨a, b, ns, xs, mv, rfl, _⟩ := h
    rfl
  · obtain ⟨a, b, ns, xs, mv, rfl, ha, hb, nd, nl, hmv, ok, ml, k⟩ := h
    refine ⟨_, (pss_cons (ps_asg (pe_tupG (pa_cons (pe_lstG pa_nil) (pa_cons pe_non (pa_cons pe_dnewK pa_nil)))) (pg_tup rfl (pgs_cons (pg_name (i := 2) sc__law_makers_right.nd rfl (by first | exact Or.inl rfl | exact Or.inr rfl)) (pgs_cons (pg_name (i := 3) sc__law_makers_right.nd rfl (by first | exact Or.inl rfl | exact Or.inr rfl)) (pgs_cons (pg_name (i := 4) sc__law_makers_right.nd rfl (by first | exact Or.inl rfl | exact Or.inr rfl)) pgs_nil))))) (pss_cons (ps_for PassesOwn.never rfl (pi_range1 (by rfl) T.z_range (pa_cons (pe_callB call_len_seq (by rfl) T.z_len PySem.boot_len (pa_cons (pv 1) pa_nil)) pa_nil)) (pg_name (i := 5) sc__law_makers_right.nd rfl (by first | exact Or.inl rfl | exact Or.inr rfl)) (pss_cons (ps_set (i := 6) sc__law_makers_right.nd rfl (by first | exact Or.inl rfl | exact Or.inr rfl) (pe_call (ok__law_borders T) (hr.mono (by decide)) (by rfl) T.g__law_borders T.f__law_borders.kp (b__law_borders T) .nil pass0 (pa_cons (pv 0) (pa_cons (pv 2) pa_nil)))) (pss_cons (ps_asg (pe_call (ok__law_done T) (hr.mono (by decide)) (by rfl) T.g__law_done T.f__law_done.kp (b__law_done T) .nil pass0 (pa_cons (pv 0) (pa_cons (pv 2) (pa_cons (pv 3) (pa_cons (pe_slice sl_listG (pv 1) (po_some (pv 5)) (po_some (pe_op op_add (pv 5) pe_int))) pa_nil))))) (pg_tup rfl (pgs_cons (pg_name (i := 2) sc__law_makers_right.nd rfl (by first | exact Or.inl rfl | exact Or.inr rfl)) (pgs_cons (pg_name (i := 3) sc__law_makers_right.nd rfl (by first | exact Or.inl rfl | exact Or.inr rfl)) pgs_nil)))) (pss_one (ps_for PassesOwn.never rfl (pi_list (pe_call (ok__law_borders T) (hr.mono (by decide)) (by rfl) T.g__law_borders T.f__law_borders.kp (b__law_borders T) .nil pass0 (pa_cons (pv 0) (pa_cons (pv 2) pa_nil)))) (pg_name (i := 7) sc__law_makers_right.nd rfl (by first | exact Or.inl rfl | exact Or.inr rfl)) (pss_one (ps_if (pt_cmpR op_notIn_seq (pv 7) (pv 6) (by rfl)) (pss_one (ps_dput (hu_of hr) (pv 4) (pv 7) (pv 5) rfl)) pss_nil))))))) (pss_cons (ps_setLc (i := 8) (own := [("_law_border", 7)]) (g := gName 7) (by rfl) sc__law_makers_right.nd rfl rfl (sw_true rfl rfl rfl (by decide +kernel)) (pi_list (pe_call (ok__law_borders T) (hr.mono (by decide)) (by rfl) T.g__law_borders T.f__law_borders.kp (b__law_borders T) .nil pass0 (pa_cons (pv 0) (pa_cons (pv 2) pa_nil)))) (blkOk_by (own := [("_law_border", 7)]) (N := ["_law_there", "_law_clicks_here", "_law_marks_here", "_law_anchor", "_law_made", "_law_index", "_law_before", "_law_border", "_law_due", "_law_used", "_law_told", "_law_idle"]) (sc := (defScope s__law_makers_right)) (by decide +kernel)) (fun _ _ _ _ _ => (pg_name (i := 7) sc__law_makers_right.nd rfl (by first | exact Or.inl rfl | exact Or.inr rfl))) (fun _ _ _ _ _ => pts_nil) (fun _ _ _ _ _ => (pe_tupG (pa_cons (pv 7) (pa_cons (pe_dget (hu_of hr) (pv 4) (pv 7) (fun _ _ => rfl)) pa_nil))))) (pss_cons (ps_set (i := 9) sc__law_makers_right.nd rfl (by first | exact Or.inl rfl | exact Or.inr rfl) (pe_lc (own := [("_law_border", 7), ("_law_index", 5)]) (g := (gTup K 2 (gCons (gName 7) (gCons (gName 5) gNil)))) (by rfl) sc__law_makers_right.nd (pi_list (pv 8)) (blkOk_by (own := [("_law_border", 7), ("_law_index", 5)]) (N := ["_law_there", "_law_clicks_here", "_law_marks_here", "_law_anchor", "_law_made", "_law_index", "_law_before", "_law_border", "_law_due", "_law_used", "_law_told", "_law_idle"]) (sc := (defScope s__law_makers_right)) (by decide +kernel)) (fun _ _ _ _ _ => (pg_tup rfl (pgs_cons (pg_name (i := 7) sc__law_makers_right.nd rfl (by first | exact Or.inl rfl | exact Or.inr rfl)) (pgs_cons (pg_name (i := 5) sc__law_makers_right.nd rfl (by first | exact Or.inl rfl | exact Or.inr rfl)) pgs_nil)))) (fun _ _ _ _ _ => pts_nil) (fun _ _ _ _ _ => (pv 5)))) (pss_cons (ps_set (i := 10) sc__law_makers_right.nd rfl (by first | exact Or.inl rfl | exact Or.inr rfl) (pe_call (ok_makers T) (hr.mono (by decide)) (by rfl) T.g_makers T.f_makers.kp (b_makers T) .nil passL (pa_cons (pv 0) (pa_cons (pv 1) pa_nil)))) (pss_cons (ps_if (pt_cmpR op_ne (pe_callB (cr_reprA gd hr.units) (by rfl) T.z_repr (by decide +kernel) (pa_cons (pv 10) pa_nil)) (pe_callB (cr_reprA gd hr.units) (by rfl) T.z_repr (by decide +kernel) (pa_cons (pv 8) pa_nil)) (nomark _)) (pss_one (ps_ret pe_bl)) pss_nil) (pss_cons (ps_expr (pe_bm PySem.F.plainAttrs_list PySem.F.slot_list_append PySem.F.type_list_append mt_append (pv 10) (pa_cons (pe_tupG (pa_cons pe_int (pa_cons pe_int pa_nil))) pa_nil))) (pss_cons (ps_if (pt_cmpR (op_neD hr.units) (pe_callK0 (ok_makers T) (hr.mono (by decide)) (by rfl) T.g_makers T.f_makers.kp (kb_makers_0_clicks_there T) passL (pk_cons (pv 1) (pk_cons (pv 0) pk_nil))) (pv 8) (nomark _)) (pss_one (ps_ret pe_bl)) pss_nil) (pss_cons (ps_setLc (i := 11) (own := [("_law_index", 5)]) (g := gName 5) (by rfl) sc__law_makers_right.nd rfl rfl (sw_true rfl rfl rfl (by decide +kernel)) (pi_range1 (by rfl) T.z_range (pa_cons (pe_callB call_len_seq (by rfl) T.z_len PySem.boot_len (pa_cons (pv 1) pa_nil)) pa_nil)) (blkOk_by (own := [("_law_index", 5)]) (N := ["_law_there", "_law_clicks_here", "_law_marks_here", "_law_anchor", "_law_made", "_law_index", "_law_before", "_law_border", "_law_due", "_law_used", "_law_told", "_law_idle"]) (sc := (defScope s__law_makers_right)) (by decide +kernel)) (fun _ _ _ _ _ => (pg_name (i := 5) sc__law_makers_right.nd rfl (by first | exact Or.inl rfl | exact Or.inr rfl))) (fun _ _ _ _ _ => (pts_one (pt_cmpR (opK (r := fun K => rIn K true) (K := K) (by rfl) op_notIn_seq) (pv 5) (pv 9) (by rfl)))) (fun _ _ _ _ _ => (pv 5))) (pss_one (ps_ret (pe_and (pe_cmpR op_eq (pe_callB (cr_reprA gd hr.units) (by rfl) T.z_repr (by decide +kernel) (pa_cons (pe_call (ok_idle_clicks T) (hr.mono (by decide)) (by rfl) T.g_idle_clicks T.f_idle_clicks.kp (b_idle_clicks T) .nil passL (pa_cons (pv 0) (pa_cons (pv 1) pa_nil))) pa_nil)) (pe_callB (cr_reprA gd hr.units) (by rfl) T.z_repr (by decide +kernel) (pa_cons (pv 11) pa_nil)) (nomark _)) (pe_one (pe_cmpR (op_eqD hr.units) (pe_callK0 (ok_idle_clicks T) (hr.mono (by decide)) (by rfl) T.g_idle_clicks T.f_idle_clicks.kp (kb_idle_clicks_0_clicks_there T) passL (pk_cons (pv 1) (pk_cons (pv 0) pk_nil))) (pv 11) (nomark _))))))))))))))), ?_⟩
    have xl := hmv.1
    refine ⟨(by show 0 ≤ sizeLine; decide), fun M0 H1 n1 e1 h1 => ?_⟩
    intro D n3
    have e3 : Ex H1 (upd H1 D (.dK [])) := Evl.Ex.new n3
    have h3 : upd H1 D (.dK []) D = some (.dK []) := upd_same
    generalize upd H1 D (.dK []) = H3 at e3 h3 ⊢
    refine ⟨(by show 3 ≤ sizeLine; decide), fun pt H4 n4 e4 h4 => ?_⟩
    refine ⟨_, _, rfl, sqT h4, rfl, _, _, rfl, _, _, rfl, _, _, rfl, rfl, ?_⟩
    have e04 := e1.trans (e3.trans e4)
    have nD : H D = none := none_of e1 n3
    have ha4 := Evl.ex_l e04 ha
    have hb4 := Evl.ex_l e04 hb
    refine ⟨_, rfl, _, _, rfl, .inl hb4, _, rfl, by omega, by omega, for_range (lo := 0) (n := ((xs.length : Nat) : Int).toNat) (fun i σ H' => ∃ (M : Addr) (ms : List Int) (an : Option Int) (ks : List Int) (v5 v6 v7 v8 v9 v10 v11 : Option V), σ = [some (.ref a), some (.ref b), some (.ref M), some (anV an), some (.ref D), v5, v6, v7, v8, v9, v10, v11] ∧ Ex H H' ∧ H' M = some (.lst (ms.map V.int)) ∧ ms.Pairwise (· < ·) ∧ (∀ r ∈ ms, r ∈ ns) ∧ (∀ r, r ∈ ms ↔ (done ns [] none ((mv.take i).map clM)).1 r = true) ∧ an = (done ns [] none ((mv.take i).map clM)).2 ∧ H' D = some (.dK (kvsOf ks fun x => .int (mdA ns.length mv i x))) ∧ ks.Nodup ∧ (∀ x ∈ ks, x ∈ upN (ns.length + 1)) ∧ ∀ x ∈ bdA ns.length (mv.take i), x ∈ ks) ⟨M0, [], none, [], _, _, _, _, _, _, _, rfl, e04, (e3.trans e4) _ _ h1, List.Pairwise.nil, (fun r h => nomatch h), (fun r => by show r ∈ ([] : List Int) ↔ decide (r ∈ ([] : List Int)) = true; simp), rfl, e4 _ _ h3, List.nodup_nil, (fun x h => nomatch h), ?_⟩ ?_ ?_⟩
    · show ∀ x ∈ bdA ns.length [], x ∈ []
      rw [bd_nil]
      exact fun x h => h
    · rintro i σ H5 hi ⟨M, ms, an, ks, v5, v6, v7, v8, v9, v10, v11, rfl, e5, hM, pw, sub, hms, han, hD, nk, kin, bin⟩
      have him : i < mv.length := by omega
      have hmi : mv[i]? = some (mv[i]'him) := List.getElem?_eq_getElem him
      obtain ⟨m, em⟩ : ∃ m, m = mv[i]'him := ⟨_, rfl⟩
      rw [← em] at hmi
      have hm2 : m.2 < ns.length := ok m (List.mem_of_getElem? hmi)
      obtain ⟨v0, hv0, q, rfl, hq⟩ := hmv.row hmi
      have ml' := nodup_len (pw_nodup pw) sub
      have oki0 : ∀ m ∈ mv.take i, m.2 < ns.length := fun m hm => ok m (List.mem_of_mem_take hm)
      have eb0 : bordersL ns ms = bdA ns.length (mv.take i) := by
        rw [borders_C, flg_done nd oki0 hms]
        rfl
      have ei : (0 : Int) + (i : Int) = ((i : Nat) : Int) := by omega
      -- before
      refine ⟨_, rfl, _, rfl, a, M, ns, ms, rfl, Evl.ex_l e5 ha, sqI hM, by omega, fun B H6 n6 e6 h6 => ?_⟩
      rw [eb0] at h6
      have e06 := e5.trans e6
      rw [ei]
      refine st_eq (σ' := [some (.ref a), some (.ref b), some (.ref M), some (anV an), some (.ref D), some (.int (i : Nat)), some (.ref B), v7, v8, v9, v10, v11]) (P := fun σ => tSeq _ _ _ σ H6) rfl ?_
      -- done
      refine ⟨_, rfl, _, rfl, _, rfl, _, rfl, _, rfl, _, rfl, _, rfl, _, _, rfl, rfl, _, rfl, b, xs, rfl, Evl.ex_l e06 hb, fun p7 H7 n7 e7 h7 => ?_⟩
      rw [show ((i : Nat) : Int) + 1 = ((i : Nat) : Int) + ((1 : Nat) : Int) from rfl, cut_midS] at h7
      have hdrop : (xs.drop i).take 1 = [V.ref q] := by
        rw [List.drop_eq_getElem_cons (by omega)]
        have : xs[i]'(by omega) = V.ref q := by
          rw [List.getElem?_eq_getElem (by omega)] at hv0
          exact Option.some.inj hv0
        rw [this]
        rfl
      rw [hdrop] at h7
      have e07 := e06.trans e7
      have cls1 : Cls K H7 [V.ref q] [clM m] := ⟨rfl, fun j v c h1 h2 => by
        cases j with
        | zero =>
          cases h1
          cases h2
          exact ⟨q, rfl, Evl.ex_t e07 hq⟩
        | succ j => simp at h1⟩
      have ok1 : ClOk ns.length [clM m] := clok_mv (mv := [m]) fun x hx => by
        rw [List.mem_singleton.mp hx]
        exact hm2
      refine ⟨a, M, p7, ns, ms, [V.ref q], [clM m], an, rfl, Evl.ex_l e07 ha, sqI ((e6.trans e7) _ _ hM), sqI h7, nd, by omega, pw_nodup pw, by omega, cls1, ok1, fun M' qt H8 rs n8 e8 npq nqt hqt hM' prs hrs hss => ?_⟩
      rw [done_next hms han hmi] at hrs hqt
      refine ⟨_, _, rfl, sqT hqt, rfl, _, _, rfl, _, _, rfl, rfl, ?_⟩
      obtain ⟨an', han'⟩ : ∃ an', an' = (done ns [] none ((mv.take (i + 1)).map clM)).2 := ⟨_, rfl⟩
      rw [← han']
      have rsub : ∀ r ∈ rs, r ∈ ns := fun r hr' => (List.mem_append.mp (hss r hr')).elim (sub r) id
      have oki : ∀ m ∈ mv.take (i + 1), m.2 < ns.length := fun m hm => ok m (List.mem_of_mem_take hm)
      have eb : bordersL ns rs = bdA ns.length (mv.take (i + 1)) := by
        rw [borders_C, flg_done nd oki hrs]
        rfl
      have e08 := e07.trans e8
      have rl := nodup_len (pw_nodup prs) rsub
      refine ⟨_, rfl, _, rfl, a, M', ns, rs, rfl, Evl.ex_l e08 ha, sqI hM', by omega, fun B' H9 n9 e9 h9 => ?_⟩
      rw [eb] at h9
      have e09 := e08.trans e9
      have e69 := e7.trans (e8.trans e9)
      have hB9 := e69 _ _ h6
      have hD9 := (e6.trans e69) _ _ hD
      have hM9 := e9 _ _ hM'
      have nBD := ne_lst hB9 hD9
      have nMD := ne_lst hM9 hD9
      have nB'D := ne_lst h9 hD9
      refine ⟨B', rfl, ⟨_, sqI h9⟩, for_list (K := K) (a := B') (xs := (bdA ns.length (mv.take (i + 1))).map V.int) (fun j σ H' => ∃ (ks' : List Int) (w7 : Option V), σ = [some (.ref a), some (.ref b), some (.ref M'), some (anV an'), some (.ref D), some (.int (i : Nat)), some (.ref B), w7, v8, v9, v10, v11] ∧ Exj D H9 H' ∧ Ex H H' ∧ H' D = some (.dK (kvsOf ks' fun x => .int (ggA ns.length mv i j x))) ∧ ks'.Nodup ∧ (∀ x ∈ ks', x ∈ upN (ns.length + 1)) ∧ (∀ x ∈ bdA ns.length (mv.take i), x ∈ ks') ∧ ∀ x ∈ (bdA ns.length (mv.take (i + 1))).take j, x ∈ ks') ⟨ks, _, rfl, Exj.refl _ _, e09, ?_, nk, kin, bin, (fun x h => nomatch h)⟩ (fun j σ H' _ ⟨_, _, _, y, _⟩ => sqI (y _ _ nB'D h9)) ?_ ?_⟩
      · rw [hD9]
        refine congrArg some (congrArg HO.dK (kvs_congr fun x _ => ?_))
        unfold ggA
        rw [if_neg (fun z => nomatch z.1)]
      · rintro j y σ HA hj ⟨ks', w7, rfl, yA, eA, dA, nA, kA, bA, tA⟩
        obtain ⟨bd, hbd, rfl⟩ := mapI_get hj
        have binU := bd_in ok (i + 1) (by omega) bd (List.mem_of_getElem? hbd)
        show _
        refine ⟨_, rfl, _, rfl, _, _, rfl, .inl (sqI (yA _ _ nBD hB9)), rfl, flatI _, _, rfl, ?_⟩
        rw [inV_int]
        refine ifB (fun c => ?_) (fun c => ?_)
        · have c : bd ∉ bdA ns.length (mv.take i) := fun z => by
            have c : (!decide (bd ∈ bdA ns.length (mv.take i))) = true := c
            rw [decide_eq_true z] at c
            cases c
          have kl := nodup_len nA kA
          rw [upN_len] at kl
          refine ⟨_, rfl, _, rfl, _, rfl, _, _, rfl, .inl ⟨_, Sum.inl bd, dA, rfl, le40 (by rw [kvs_len]; omega), rfl⟩, ?_⟩
          rw [putK_kvs]
          refine ⟨if bd ∈ ks' then ks' else ks' ++ [bd], _, rfl, yA.upd, Evl.Ex.mut eA nD, ?_, put_nodup nA bd, fun x hx => (mem_put.mp hx).elim (kA x) (fun z => by rw [z]; exact binU), fun x hx => mem_put.mpr (.inl (bA x hx)), fun x hx => ?_⟩
          · rw [upd_same]
            refine congrArg some (congrArg HO.dK (kvs_congr fun x _ => ?_))
            unfold ggA
            rw [take_snoc hbd]
            by_cases z : x = bd
            · rw [if_pos z, if_pos ⟨by rw [z]; exact List.mem_append_right _ (List.mem_singleton.mpr rfl), by rw [z]; exact c⟩]
            · rw [if_neg z]
              have : (x ∈ (bdA ns.length (mv.take (i + 1))).take j ++ [bd] ∧ x ∉ bdA ns.length (mv.take i)) ↔ (x ∈ (bdA ns.length (mv.take (i + 1))).take j ∧ x ∉ bdA ns.length (mv.take i)) := by
                rw [List.mem_append, List.mem_singleton]
                simp [z]
              simp only [this]
          · rw [take_snoc hbd] at hx
            rcases List.mem_append.mp hx with z | z
            · exact mem_put.mpr (.inl (tA x z))
            · exact mem_put.mpr (.inr (List.mem_singleton.mp z))
        · have c : bd ∈ bdA ns.length (mv.take i) := by
            have c : (!decide (bd ∈ bdA ns.length (mv.take i))) = false := c
            simpa using c
          refine ⟨ks', _, rfl, yA, eA, ?_, nA, kA, bA, fun x hx => ?_⟩
          · rw [dA]
            refine congrArg some (congrArg HO.dK (kvs_congr fun x _ => ?_))
            unfold ggA
            rw [take_snoc hbd]
            have : (x ∈ (bdA ns.length (mv.take (i + 1))).take j ++ [bd] ∧ x ∉ bdA ns.length (mv.take i)) ↔ (x ∈ (bdA ns.length (mv.take (i + 1))).take j ∧ x ∉ bdA ns.length (mv.take i)) := by
              rw [List.mem_append, List.mem_singleton]
              constructor
              · rintro ⟨z | z, h⟩
                · exact ⟨z, h⟩
                · rw [z] at h
                  exact absurd c h
              · rintro ⟨z, h⟩
                exact ⟨.inl z, h⟩
            simp only [this]
          · rw [take_snoc hbd] at hx
            rcases List.mem_append.mp hx with z | z
            · exact tA x z
            · rw [List.mem_singleton.mp z]
              exact bA bd c
      · rintro σ HA ⟨ks', w7, rfl, yA, eA, dA, nA, kA, bA, tA⟩
        rw [List.length_map] at dA tA
        rw [List.take_length] at tA
        refine ⟨M', rs, an', ks', _, _, _, _, _, _, _, rfl, eA, yA _ _ nMD hM9, prs, rsub, hrs, rfl, ?_, nA, kA, tA⟩
        rw [dA]
        refine congrArg some (congrArg HO.dK (kvs_congr fun x _ => ?_))
        unfold ggA
        rw [List.take_length]
        rfl
    · rintro σ H5 ⟨M, ms, an, ks, v5, v6, v7, v8, v9, v10, v11, rfl, e5, hM, pw, sub, hms, han, hD, nk, kin, bin⟩
      rw [show (((xs.length : Nat) : Int)).toNat = mv.length by omega] at hms han hD bin
      rw [List.take_length] at hms han bin
      have bl := bd_len ok
      have eb : bordersL ns ms = bdA ns.length mv := by
        rw [borders_C, flg_done nd ok hms]
        rfl
      have msl := nodup_len (pw_nodup pw) sub
      obtain ⟨L, hL⟩ : ∃ L, L = mkL ns.length mv := ⟨_, rfl⟩
      have Ll : L.length = (bdA ns.length mv).length := by rw [hL]; unfold mkL; rw [List.length_map]
      have Lin : ∀ k ∈ L, (-1000 ≤ k.1 ∧ k.1 ≤ 1000) ∧ (-1000 ≤ k.2 ∧ k.2 ≤ 1000) := fun k hk => by
        rw [hL] at hk
        obtain ⟨bd, hbd, rfl⟩ := List.mem_map.mp hk
        have h1 := (md_all ok).2 bd hbd
        have h2 := bd_in ok mv.length (Nat.le_refl _) bd (by rw [List.take_length]; exact hbd)
        have h3 := upN_mem h2
        show (-1000 ≤ bd ∧ bd ≤ 1000) ∧ (-1000 ≤ mdA ns.length mv mv.length bd ∧ mdA ns.length mv mv.length bd ≤ 1000)
        omega
      -- due
      refine ⟨_, rfl, _, rfl, a, M, ns, ms, rfl, Evl.ex_l e5 ha, sqI hM, by omega, fun B H6 n6 e6 h6 => ?_⟩
      rw [eb] at h6
      have hD6 := e6 _ _ hD
      have e06 := e5.trans e6
      refine ⟨B, rfl, ⟨_, sqI h6⟩, fun D2 hD2 => lc_it (walk_list (K := K) (a := B) (xs := (bdA ns.length mv).map V.int)) (fun i H' => ∃ us, Ex H6 H' ∧ H' D2 = some (.lst us) ∧ AllR (BkR K H') us (((bdA ns.length mv).take i).map fun b => (b, mdA ns.length mv mv.length b))) ⟨[], Evl.Ex.new hD2, upd_same, AllR.nil⟩ (fun i H' _ ⟨_, e, _⟩ => sqI (e _ _ h6)) ?_ ?_⟩
      · rintro i x HX H7 hi ⟨us, e7, d7, a7⟩ ⟨rfl, hx⟩
        obtain ⟨bd, hbd, rfl⟩ := mapI_get hx
        have ul := a7.1
        rw [List.length_map, List.length_take] at ul
        refine ⟨rfl, ?_⟩
        show _
        refine ⟨_, rfl, _, rfl, _, rfl, D, _, rfl, .inl ⟨_, Sum.inl bd, .inl (e7 _ _ hD6), rfl, by rw [valV_kvs, if_pos (bin bd (List.mem_of_getElem? hbd))]⟩, (by show 2 ≤ sizeLine; decide), fun p H8 n8 e8 h8 => ?_⟩
        have d8 := e8 _ _ d7
        have np : p ≠ D2 := (ne_of_none d7 n8).symm
        have ej : Exj D2 H7 (upd H8 D2 (.lst (us ++ [.ref p]))) := (Exj.of e8).upd
        refine ⟨us, d8, le40 (by omega), us ++ [.ref p], Evl.Ex.mut (e7.trans e8) hD2, upd_same, ?_⟩
        rw [take_snoc hbd, List.map_append]
        refine AllR.snoc (a7.mono fun v x r => r.exj ej d7) ⟨p, rfl, sqT ?_⟩
        rw [upd_ne np, h8]
      rintro H7 ⟨us, e7, d7, a7⟩
      have a7 : AllR (BkR K H7) us L := by
        rw [List.length_map, List.take_length] at a7
        rw [hL]
        exact a7
      have e07 := e06.trans e7
      have usl := a7.1
      refine st_eq (σ' := [some (.ref a), some (.ref b), some (.ref M), some (anV an), some (.ref D), v5, v6, v7, some (.ref D2), v9, v10, v11]) (P := fun σ => tSeq _ _ _ σ H7) rfl ?_
      -- used
      refine ⟨_, rfl, D2, rfl, ⟨_, sqI d7⟩, fun D3 hD3 => lc_mapG (K := K) (a := D2) (xs := us) (ys := ((bdA ns.length mv).map (mdA ns.length mv mv.length)).map V.int) (sqI d7) hD3 (by rw [List.length_map, List.length_map, usl, Ll]) (Nat.le_trans (show us.length ≤ 200 by omega) (by decide)) ?_ ?_⟩
      · intro i x y H' e' hx hy N Z kN
        obtain ⟨t, ht, q, rfl, hq⟩ := a7.get hx
        rw [hL] at ht
        unfold mkL at ht
        rw [List.getElem?_map] at ht
        rw [List.getElem?_map, List.getElem?_map] at hy
        cases hbd : (bdA ns.length mv)[i]? with
        | none =>
          rw [hbd] at ht
          cases ht
        | some bd =>
          rw [hbd] at ht hy
          cases ht
          cases hy
          refine ⟨_, _, rfl, Evl.ex_t e' hq, rfl, _, _, rfl, _, _, rfl, rfl, rfl, ?_⟩
          exact ⟨_, rfl, kN H' (Evl.Ex.refl _)⟩
      intro H8 e8 d8
      have e08 := e07.trans e8
      -- told
      refine ⟨_, rfl, _, rfl, a, b, ns, xs, mv, rfl, Evl.ex_l e08 ha, Evl.ex_l e08 hb, nd, by omega, mv_cls (hmv.mono fun v m r => r.ex e08), ok, fun C H9 uc n9 e9 h9 a9 => ?_⟩
      rw [← hL] at a9
      have e09 := e08.trans e9
      have e79 := e8.trans e9
      refine st_eq (σ' := [some (.ref a), some (.ref b), some (.ref M), some (anV an), some (.ref D), v5, v6, v7, some (.ref D2), some (.ref D3), some (.ref C), v11]) (P := fun σ => tSeq _ _ _ σ H9) rfl ?_
      refine ⟨_, rfl, _, eL eB L, rfl, bks_dp h9 a9, shwBks (by omega) Lin, ?_⟩
      refine ⟨_, rfl, _, eL eB L, rfl, bks_dp (e79 _ _ d7) (a7.mono fun v x r => r.ex e79), shwBks (by omega) Lin, ?_⟩
      refine ⟨rfl, _, rfl, ifF same ?_⟩
      -- told.append
      refine ⟨_, rfl, .inl ⟨rfl, _, sqI h9⟩, (by show 2 ≤ sizeLine; decide), fun p10 H10 n10 e10 h10 => ?_⟩
      have h9' := e10 _ _ h9
      have ucl := a9.1
      refine ⟨_, _, _, rfl, rfl, h9', le40 (by omega), ?_⟩
      have nC7 : H8 C = none := n9
      have nC0 : H C = none := none_of e08 n9
      have e011 : Ex H (upd H10 C (.lst (uc ++ [.ref p10]))) := Evl.Ex.mut (e09.trans e10) nC0
      have e711 : Ex H7 (upd H10 C (.lst (uc ++ [.ref p10]))) := Evl.Ex.mut (e79.trans e10) (none_of e8 n9)
      have e811 : Ex H8 (upd H10 C (.lst (uc ++ [.ref p10]))) := Evl.Ex.mut (e9.trans e10) n9
      generalize upd H10 C (.lst (uc ++ [.ref p10])) = H11 at e011 e711 e811 ⊢
      refine ⟨_, rfl, _, rfl, a, b, ns, xs, mv, rfl, Evl.ex_l e011 ha, Evl.ex_l e011 hb, nd, by omega, mv_cls (hmv.mono fun v m r => r.ex e011), ok, fun C2 H12 uc2 n12 e12 h12 a12 => ?_⟩
      rw [← hL] at a12
      have e712 := e711.trans e12
      have e012 := e011.trans e12
      refine ⟨_, rfl, neE (goodL goodBk) (by decide) (x := L) (y := L) (bks_dp h12 a12) (bks_dp (e712 _ _ d7) (a7.mono fun v x r => r.ex e712)) ⟨_, rfl, ifF same ?_⟩⟩
      have d12 := (e811.trans e12) _ _ d8
      -- idle
      obtain ⟨I, hI⟩ : ∃ I, I = (upN mv.length).filter fun i => !decide (i ∈ (bdA ns.length mv).map (mdA ns.length mv mv.length)) := ⟨_, rfl⟩
      have Il : I.length ≤ 100 := by
        rw [hI]
        refine Nat.le_trans (List.length_filter_le ..) ?_
        rw [upN_len]
        exact ml
      have Iin : ∀ k ∈ I, -1000 ≤ k ∧ k ≤ 1000 := fun k hk => by
        rw [hI] at hk
        have := upN_mem (List.mem_filter.mp hk).1
        omega
      refine ⟨_, rfl, _, _, rfl, .inl (Evl.ex_l e012 hb), _, rfl, by omega, by omega, fun D4 hD4 => lc_filtR (lo := 0) (n := ((xs.length : Nat) : Int).toNat) (p := fun i => !decide (i ∈ (bdA ns.length mv).map (mdA ns.length mv mv.length))) hD4 (by omega) (fun x => rfl) ?_ ?_ ?_⟩
      · intro o H' ho e' Z kZ
        refine ⟨_, rfl, _, rfl, _, _, rfl, .inl (sqI (e' _ _ d12)), rfl, flatI _, _, rfl, ?_⟩
        rw [inV_int]
        exact kZ H' (Evl.Ex.refl _)
      · intro v H' N kN
        exact ⟨_, rfl, kN⟩
      intro H13 e13 d13
      have d13 : H13 D4 = some (.lst (I.map V.int)) := by
        rw [d13, show (((xs.length : Nat) : Int)).toNat = mv.length by omega, hI]
        refine congrArg some (congrArg HO.lst (congrArg (List.map V.int) (congrArg (List.filter _) ?_)))
        unfold upN
        exact List.map_congr_left fun i _ => by omega
      have e013 := e012.trans e13
      refine ⟨_, rfl, _, rfl, a, b, ns, xs, mv, rfl, Evl.ex_l e013 ha, Evl.ex_l e013 hb, nd, by omega, mv_cls (hmv.mono fun v m r => r.ex e013), ok, by omega, fun C3 H14 n14 e14 h14 => ?_⟩
      rw [← hI] at h14
      refine ⟨_, eL PyData.int I, rfl, dpL (sqI h14), shwIs (by omega) Iin, ?_⟩
      refine ⟨_, rfl, _, eL PyData.int I, rfl, dpL (sqI (e14 _ _ d13)), shwIs (by omega) Iin, ?_⟩
      refine ⟨rfl, _, rfl, ifT (by rw [decide_eq_true rfl]) ?_⟩
      have e014 := e013.trans e14
      refine ⟨_, rfl, _, rfl, a, b, ns, xs, mv, rfl, Evl.ex_l e014 ha, Evl.ex_l e014 hb, nd, by omega, mv_cls (hmv.mono fun v m r => r.ex e014), ok, by omega, fun C4 H15 n15 e15 h15 => ?_⟩
      rw [← hI] at h15
      refine ⟨_, rfl, eqI_ (xs := I) (ys := I) (sqI h15) (sqI ((e14.trans e15) _ _ d13)) ?_⟩
      rw [decide_eq_true (rfl : I = I)]
      exact k _ (e014.trans e15)
end
end K31
set_option Elab.async false
set_option pp.maxSteps 1200
set_option linter.all false
set_option maxRecDepth 100000
set_option maxHeartbeats 4000000
namespace K31
open PySem L2 My
theorem mv_of {n : Nat} {c : Cl} (h : (c.1 = "click" ∨ c.1 = "range") ∧ 0 ≤ c.2 ∧ c.2 < (n : Nat)) : ∃ m : Mv, c = clM m ∧ m.2 < n := by
  obtain ⟨wd, p⟩ := c
  obtain ⟨h1, h2, h3⟩ := h
  rcases h1 with z | z
  · exact ⟨(false, p.toNat), by unfold clM; exact Prod.ext z (by show p = ((p.toNat : Nat) : Int); have : 0 ≤ p := h2; omega), by show p.toNat < n; have : 0 ≤ p := h2; have : p < (n : Nat) := h3; omega⟩
  · exact ⟨(true, p.toNat), by unfold clM; exact Prod.ext z (by show p = ((p.toNat : Nat) : Int); have : 0 ≤ p := h2; omega), by show p.toNat < n; have : 0 ≤ p := h2; have : p < (n : Nat) := h3; omega⟩
theorem mvs_of {n : Nat} : ∀ {cs : List Cl}, ClOk n cs → ∃ mv : List Mv, cs = mv.map clM ∧ ∀ m ∈ mv, m.2 < n
  | [], _ => ⟨[], rfl, fun m h => nomatch h⟩
  | c :: cs, h => by
    obtain ⟨m, e, hm⟩ := mv_of (h c List.mem_cons_self)
    obtain ⟨mv, e2, h2⟩ := mvs_of (cs := cs) fun x hx => h x (List.mem_cons_of_mem _ hx)
    exact ⟨m :: mv, by rw [List.map_cons, ← e, ← e2], fun x hx => (List.mem_cons.mp hx).elim (fun z => by rw [z]; exact hm) (h2 x)⟩
def MvL (K : PySem.W.Frag) (n : Nat) (H : Hp) (v : V) : Prop := ∃ q us mv, v = .ref q ∧ H q = some (.lst us) ∧ AllR (MvR K H) us mv ∧ (∀ m ∈ mv, m.2 < n) ∧ mv.length ≤ 300
theorem MvL.ex {K : PySem.W.Frag} {n : Nat} {H H' : Hp} {v : V} (e : Ex H H') : MvL K n H v → MvL K n H' v
  | ⟨q, us, mv, h1, h2, h3, h4⟩ => ⟨q, us, mv, h1, e _ _ h2, h3.mono fun v m r => r.ex e, h4⟩
theorem drop1 {K : PySem.W.Frag} {H : Hp} {us : List V} {mv : List Mv} (h : AllR (MvR K H) us mv) : AllR (MvR K H) (us.drop 1) (mv.drop 1) := ⟨by rw [List.length_drop, List.length_drop, h.1], fun i v m h1 h2 => h.2 (1 + i) v m (by rw [List.getElem?_drop] at h1; exact h1) (by rw [List.getElem?_drop] at h2; exact h2)⟩
theorem rev1 {K : PySem.W.Frag} {H : Hp} : ∀ {us : List V} {mv : List Mv}, AllR (MvR K H) us mv → AllR (MvR K H) us.reverse mv.reverse
  | [], [], _ => AllR.nil
  | [], _ :: _, h => by cases h.1
  | _ :: _, [], h => by cases h.1
  | u :: us, m :: mv, h => by
    rw [List.reverse_cons, List.reverse_cons]
    exact AllR.snoc (rev1 (drop1 h)) (h.2 0 u m rfl rfl)
theorem shwT {T : List (List Int)} (hl : T.length ≤ 100) (h : ∀ t ∈ T, TokI t) (hb : ∀ x ∈ T.flatten, -1000 ≤ x ∧ x ≤ 1000) : Shw (eCov T) 60 sizeLine := by
  refine (Shw.list (n := 1) (M := 3849) (xs := T.map eTok) fun x hx => ?_).mono (by decide) ?_
  · obtain ⟨t, ht, rfl⟩ := List.mem_map.mp hx
    have mem : ∀ y ∈ t, -1000 ≤ y ∧ y ≤ 1000 := fun y hy => hb y (List.mem_flatten.mpr ⟨t, ht, hy⟩)
    refine (Shw.tuple (n := 0) (M := 1921) (xs := t.map PyData.int) fun z hz => ?_).mono (Nat.le_refl _) ?_
    · obtain ⟨y, hy, rfl⟩ := List.mem_map.mp hz
      exact shwI (mem y hy)
    · rw [List.length_map]
      rcases h t ht with ⟨y, e⟩ | ⟨y, e⟩ <;> rw [e]
      · show 3 + 1 * (1921 + 2) ≤ 3849
        decide
      · show 3 + 2 * (1921 + 2) ≤ 3849
        decide
  · rw [List.length_map]
    exact Nat.le_trans (show 2 + T.length * (3849 + 2) ≤ 800000 by omega) (by decide)
def sp__law_cover_right (K : PySem.W.Frag) : Sp := fun vs H Q _ => ∃ (j t m c : Addr) (B : Int) (ns ms : List Int) (ix : Int) (uc : List V), vs = [.ref j, .ref t, .ref m, .int ix, .ref c] ∧ Jug H j B ∧ B ≤ 2 ^ 45 ∧ t ≠ j ∧ m ≠ j ∧ c ≠ j ∧ H t = some (.lst (ns.map V.int)) ∧ H m = some (.lst (ms.map V.int)) ∧ H c = some (.lst uc) ∧ AllR (TkR K H) uc (coverL (blocksL (bordersL ns ms)) ix) ∧ ns.Nodup ∧ ns.length ≤ 40 ∧ ms.Pairwise (· < ·) ∧ (∀ r ∈ ms, r ∈ ns) ∧ 0 ≤ ix ∧ ix < cntB (blocksL (bordersL ns ms)) ∧
  ∀ H', Exj j H H' → Jug H' j (B + 600) → Q (.bl true) H'
section
variable {w : World} {K : PySem.W.Frag} {mg : Str → Option Value} {base : Heap}
theorem ok__law_cover_right (T : Txt K mg) : FnOkG PR w K mg base CX0 7 T.a__law_cover_right T.d__law_cover_right ["_law_source_here", "_law_there", "_law_marks_here", "_law_index", "_law_cover"] (sp__law_cover_right K) := by
  refine T.f__law_cover_right.okG sc__law_cover_right (fun vs H Q E h => ?_) (fun cdv A0 outer s0 H vs Q E0 hr gd h => ?_)
  · obtain ⟨j, t, m, c, B, ns, ms, ix, uc, rfl, _⟩ := h
    rfl
  · obtain ⟨j, t, m, c, B, ns, ms, ix, uc, rfl, hj, hB, tj, mj, cj, ht, hm, hc, huc, nd, nl, pms, sub, i0, i1, k⟩ := h
    refine ⟨_, (pss_cons (ps_set (i := 5) sc__law_cover_right.nd rfl (by first | exact Or.inl rfl | exact Or.inr rfl) (pe_call (ok_clicks_of_cover T) (hr.mono (by decide)) (by rfl) T.g_clicks_of_cover T.f_clicks_of_cover.kp (b_clicks_of_cover T) .nil passL (pa_cons (pv 1) (pa_cons (pv 2) (pa_cons (pv 4) pa_nil))))) (pss_cons (ps_if (PW.pt (pw_or (pt_cmpR (op_neD hr.units) (pe_ix ix_tup (pe_call (ok__law_done T) (hr.mono (by decide)) (by rfl) T.g__law_done T.f__law_done.kp (b__law_done T) .nil pass0 (pa_cons (pv 1) (pa_cons (pe_lstG pa_nil) (pa_cons pe_non (pa_cons (pv 5) pa_nil))))) pe_int (fun _ _ => rfl)) (pv 2) (nomark _)) (pw_or1 (pt_cmpR op_ne (pe_callB call_len_seq (by rfl) T.z_len PySem.boot_len (pa_cons (pv 5) pa_nil)) (pe_callB call_len_seq (by rfl) T.z_len PySem.boot_len (pa_cons (pv 4) pa_nil)) (nomark _))))) (pss_one (ps_ret pe_bl)) pss_nil) (pss_cons (ps_if (pt_cmpR (op_neD hr.units) (pe_callK0 (ok_clicks_of_cover T) (hr.mono (by decide)) (by rfl) T.g_clicks_of_cover T.f_clicks_of_cover.kp (kb_clicks_of_cover_0_cover_marks_there T) passL (pk_cons (pv 4) (pk_cons (pv 2) (pk_cons (pv 1) pk_nil)))) (pv 5) (nomark _)) (pss_one (ps_ret pe_bl)) pss_nil) (pss_cons (ps_if (pt_cmpR op_notBl (pe_call (ok_is_cheapest T) (hr.mono (by decide)) (by rfl) T.g_is_cheapest T.f_is_cheapest.kp (b_is_cheapest T) .nil passL (pa_cons (pv 1) (pa_cons (pv 2) (pa_cons (pv 5) pa_nil)))) pe_bl (nomark _)) (pss_one (ps_ret pe_bl)) pss_nil) (pss_cons (ps_if (pt_cmpR op_notBl (pe_callK0 (ok_is_cheapest T) (hr.mono (by decide)) (by rfl) T.g_is_cheapest T.f_is_cheapest.kp (kb_is_cheapest_0_clicks_there_marks T) passL (pk_cons (pv 5) (pk_cons (pv 1) (pk_cons (pv 2) pk_nil)))) pe_bl (nomark _)) (pss_one (ps_ret pe_bl)) pss_nil) (pss_cons (ps_setLc (i := 6) (own := [("_law_token", 12)]) (g := gName 12) (by rfl) sc__law_cover_right.nd rfl rfl (sw_true rfl rfl rfl (by decide +kernel)) (pi_list (pv 4)) (blkOk_by (own := [("_law_token", 12)]) (N := ["_law_source_here", "_law_there", "_law_marks_here", "_law_index", "_law_cover", "_law_clicks_here", "_law_singles", "_law_due", "_law_place", "_law_some_here", "_law_told", "_law_is_right", "_law_token"]) (sc := (defScope s__law_cover_right)) (by decide +kernel)) (fun _ _ _ _ _ => (pg_name (i := 12) sc__law_cover_right.nd rfl (by first | exact Or.inl rfl | exact Or.inr rfl))) (fun _ _ _ _ _ => (pts_one (pt_cmpR op_eq (pe_callB (crK (r := rLenSq) (K := K) (by rfl) call_len_seq) (by rfl) T.z_len PySem.boot_len (pa_cons (pv 12) pa_nil)) pe_int (nomark _)))) (fun _ _ _ _ _ => (pe_ix (ixK (r := rIxT) (K := K) (by rfl) ix_tup) (pv 12) pe_int (fun _ _ => rfl)))) (pss_cons (ps_set (i := 7) sc__law_cover_right.nd rfl (by first | exact Or.inl rfl | exact Or.inr rfl) (pe_lstG pa_nil)) (pss_cons (ps_for PassesOwn.never rfl (pi_range3 (by rfl) T.z_range (pa_cons pe_int (pa_cons (pe_callB call_len_seq (by rfl) T.z_len PySem.boot_len (pa_cons (pv 6) pa_nil)) (pa_cons pe_int pa_nil)))) (pg_name (i := 8) sc__law_cover_right.nd rfl (by first | exact Or.inl rfl | exact Or.inr rfl)) (pss_one (ps_set (i := 7) sc__law_cover_right.nd rfl (by first | exact Or.inl rfl | exact Or.inr rfl) (pe_op op_catG (pv 7) (pe_lstG (pa_cons (pe_tupG (pa_cons pe_str (pa_cons (pe_ix ix_list (pv 6) (pv 8) (fun _ _ => rfl)) pa_nil))) (pa_cons (pe_tupG (pa_cons pe_str (pa_cons (pe_op op_sub (pe_ix ix_list (pv 6) (pe_op op_add (pv 8) pe_int) (fun _ _ => rfl)) pe_int) pa_nil))) pa_nil))))))) (pss_cons (ps_if (pt_cmpR (op_neD hr.units) (pv 5) (pe_op op_catG (pv 7) (pe_lc (own := [("_law_token", 12)]) (g := gName 12) (by rfl) sc__law_cover_right.nd (pi_list (pv 4)) (blkOk_by (own := [("_law_token", 12)]) (N := ["_law_source_here", "_law_there", "_law_marks_here", "_law_index", "_law_cover", "_law_clicks_here", "_law_singles", "_law_due", "_law_place", "_law_some_here", "_law_told", "_law_is_right", "_law_token"]) (sc := (defScope s__law_cover_right)) (by decide +kernel)) (fun _ _ _ _ _ => (pg_name (i := 12) sc__law_cover_right.nd rfl (by first | exact Or.inl rfl | exact Or.inr rfl))) (fun _ _ _ _ _ => (pts_one (pt_cmpR op_eq (pe_callB (crK (r := rLenSq) (K := K) (by rfl) call_len_seq) (by rfl) T.z_len PySem.boot_len (pa_cons (pv 12) pa_nil)) pe_int (nomark _)))) (fun _ _ _ _ _ => (pe_tupG (pa_cons pe_str (pa_cons (pe_ix (ixK (r := rIxT) (K := K) (by rfl) ix_tup) (pv 12) pe_int (fun _ _ => rfl)) pa_nil)))))) (nomark _)) (pss_one (ps_ret pe_bl)) pss_nil) (pss_cons (ps_set (i := 9) sc__law_cover_right.nd rfl (by first | exact Or.inl rfl | exact Or.inr rfl) (pe_lstG (pa_cons (pe_revG (pv 5)) (pa_cons (pe_slice sl_listG (pv 5) (po_some pe_int) po_none) (pa_cons (pe_op op_catG (pv 5) (pe_slice sl_listG (pv 5) po_none (po_some pe_int))) (pa_cons (pe_op op_catG (pe_slice sl_listG (pv 5) (po_some pe_int) po_none) (pe_slice sl_listG (pv 5) po_none (po_some pe_int))) (pa_cons (pe_call (ok__law_clicks T) (hr.mono (by decide)) (by rfl) T.g__law_clicks T.f__law_clicks.kp (b__law_clicks T) .nil pass0 (pa_cons (pv 0) (pa_cons (pe_callB call_len_seq (by rfl) T.z_len PySem.boot_len (pa_cons (pv 1) pa_nil)) (pa_cons pe_int pa_nil)))) pa_nil))))))) (pss_cons (ps_for PassesOwn.never rfl (pi_list (pv 9)) (pg_name (i := 10) sc__law_cover_right.nd rfl (by first | exact Or.inl rfl | exact Or.inr rfl)) (pss_cons (ps_set (i := 11) sc__law_cover_right.nd rfl (by first | exact Or.inl rfl | exact Or.inr rfl) (pe_cut (pe_and (pe_cmpR (op_eqD hr.units) (pe_ix ix_tup (pe_call (ok__law_done T) (hr.mono (by decide)) (by rfl) T.g__law_done T.f__law_done.kp (b__law_done T) .nil pass0 (pa_cons (pv 1) (pa_cons (pe_lstG pa_nil) (pa_cons pe_non (pa_cons (pv 10) pa_nil))))) pe_int (fun _ _ => rfl)) (pv 2) (nomark _)) (pe_one (pe_cmpR op_eq (pe_callB call_len_seq (by rfl) T.z_len PySem.boot_len (pa_cons (pv 10) pa_nil)) (pe_callB call_len_seq (by rfl) T.z_len PySem.boot_len (pa_cons (pv 4) pa_nil)) (nomark _)))))) (pss_one (ps_if (pt_cmpR op_ne (pe_callB (cr_reprA gd hr.units) (by rfl) T.z_repr (by decide +kernel) (pa_cons (pe_call (ok_is_cheapest T) (hr.mono (by decide)) (by rfl) T.g_is_cheapest T.f_is_cheapest.kp (b_is_cheapest T) .nil passL (pa_cons (pv 1) (pa_cons (pv 2) (pa_cons (pv 10) pa_nil)))) pa_nil)) (pe_callB (cr_reprA gd hr.units) (by rfl) T.z_repr (by decide +kernel) (pa_cons (pv 11) pa_nil)) (nomark _)) (pss_one (ps_ret pe_bl)) pss_nil)))) (pss_one (ps_ret (pe_cmpR op_eq (pe_callB (cr_reprA gd hr.units) (by rfl) T.z_repr (by decide +kernel) (pa_cons (pe_callK0 (ok_cover_at T) (hr.mono (by decide)) (by rfl) T.g_cover_at T.f_cover_at.kp (kb_cover_at_0_index_marks_there T) passL (pk_cons (pv 3) (pk_cons (pv 2) (pk_cons (pv 1) pk_nil)))) pa_nil)) (pe_callB (cr_reprA gd hr.units) (by rfl) T.z_repr (by decide +kernel) (pa_cons (pv 4) pa_nil)) (nomark _))))))))))))))), ?_⟩
    obtain ⟨f1, f2, f3, f4, f5⟩ := cover_mv ns ms i0 i1
    have ftk := cover_tokI (bs := blocksL (bordersL ns ms)) (ix := ix)
    have fev := singles_even ns ms ix
    have msl := nodup_len (pw_nodup pms) sub
    have hlf := cost_half ns ms
    obtain ⟨cv, hcv⟩ : ∃ cv, cv = coverL (blocksL (bordersL ns ms)) ix := ⟨_, rfl⟩
    rw [← hcv] at huc f1 f2 f3 f4 f5 ftk fev
    have cvl : cv.length ≤ 21 := by omega
    obtain ⟨mv, hmv⟩ : ∃ mv, mv = movesT cv := ⟨_, rfl⟩
    rw [← hmv] at f3 f4 f5
    have mvl : mv.length = cv.length := by
      have lead : (scA ns.length mv).1 = flg ns ms := by
        have tkn : ∀ t ∈ cv, TokN t := fun t ht => by
          have mem : ∀ x ∈ t, 0 ≤ x := fun x hx => by
            have : x ∈ cv.flatten := List.mem_flatten.mpr ⟨t, ht, hx⟩
            rw [f1] at this
            exact (borders_nn this).1
          rcases ftk t ht with ⟨b, rfl⟩ | ⟨b, rfl⟩
          · have := mem b (by simp)
            exact .inl ⟨b.toNat, by rw [show ((b.toNat : Nat) : Int) = b by omega]⟩
          · have := mem b (by simp)
            exact .inr ⟨b.toNat, by rw [show ((b.toNat : Nat) : Int) = b by omega]⟩
        have pw := borders_asc ns ms
        obtain ⟨l1, _⟩ := cover_lead (n := ns.length) (fl := flg ns ms) (a := none) (by simp [flg]) tkn (by rw [f1, borders_C]) (by rw [f1]; exact pw) fev fun x hx => by
          rw [f1] at hx
          exact (borders_nn hx).2
        rw [hmv]
        exact l1
      rw [lead] at f5
      have := costL_N ns ms
      omega
    have lead : ∀ r, r ∈ ms ↔ (done ns [] none (mv.map clM)).1 r = true := by
      intro r
      obtain ⟨g1, _, g3⟩ := done_gen nd mv (fun r => decide (r ∈ ([] : List Int))) none f4
      have tkn : ∀ t ∈ cv, TokN t := fun t ht => by
        have mem : ∀ x ∈ t, 0 ≤ x := fun x hx => by
          have : x ∈ cv.flatten := List.mem_flatten.mpr ⟨t, ht, hx⟩
          rw [f1] at this
          exact (borders_nn this).1
        rcases ftk t ht with ⟨b, rfl⟩ | ⟨b, rfl⟩
        · have := mem b (by simp)
          exact .inl ⟨b.toNat, by rw [show ((b.toNat : Nat) : Int) = b by omega]⟩
        · have := mem b (by simp)
          exact .inr ⟨b.toNat, by rw [show ((b.toNat : Nat) : Int) = b by omega]⟩
      have pw := borders_asc ns ms
      obtain ⟨l1, _⟩ := cover_lead (n := ns.length) (fl := flg ns ms) (a := none) (by simp [flg]) tkn (by rw [f1, borders_C]) (by rw [f1]; exact pw) fev fun x hx => by
        rw [f1] at hx
        exact (borders_nn hx).2
      rw [← hmv] at l1
      have e0 : fls ns (fun r => decide (r ∈ ([] : List Int))) = List.replicate ns.length false := by
        refine List.ext_getElem (by simp) fun i a b => ?_
        simp
      rw [e0, show posA ns none = none from rfl, l1] at g1
      by_cases hr : r ∈ ns
      · obtain ⟨i, hi⟩ := List.mem_iff_getElem?.mp hr
        have a1 := fls_at (f := (done ns [] none (mv.map clM)).1) hi
        have a2 := fls_at (f := fun r => decide (r ∈ ms)) hi
        have g1 : fls ns (done ns [] none (mv.map clM)).1 = flg ns ms := g1
        rw [← a1, g1]
        show _ ↔ (fls ns fun r => decide (r ∈ ms)).getD i false = true
        rw [a2, decide_eq_true_iff]
      · have h3 : (done ns [] none (mv.map clM)).1 r = decide (r ∈ ([] : List Int)) := g3 r hr
        constructor
        · intro z
          exact absurd (sub r z) hr
        · intro z
          rw [h3] at z
          simp at z
    have sh := shwT (by omega) ftk (fun x hx => by
      rw [f1] at hx
      have := borders_nn hx
      omega)
    have ucl := huc.1
    -- clicks
    refine ⟨_, rfl, _, rfl, _, rfl, t, m, c, ns, ms, uc, cv, rfl, sqI ht, sqI hm, sqI hc, nd, by omega, pms, by omega, sub, huc, f2, ftk, f1, by omega, fev, fun X H1 ux n1 e1 h1 a1 => ?_⟩
    rw [f3] at a1
    have mx1 : AllR (MvR K H1) ux mv := cl_mv a1
    have uxl := mx1.1
    refine st_eq (σ' := [some (.ref j), some (.ref t), some (.ref m), some (.int ix), some (.ref c), some (.ref X), none, none, none, none, none, none, none]) (P := fun σ => tSeq _ _ _ σ H1) rfl ?_
    refine ⟨_, rfl, (by show 0 ≤ sizeLine; decide), fun p2 H2 n2 e2 h2 => ?_⟩
    have e02 := e1.trans e2
    refine ⟨_, rfl, t, p2, X, ns, [], ux, mv.map clM, none, rfl, sqI (e02 _ _ ht), sqI h2, sqI (e2 _ _ h1), nd, by omega, List.nodup_nil, (by show 0 ≤ 1000; omega), mv_cls (mx1.mono fun v m r => r.ex e2), clok_mv f4, fun p3 q3 H3 rs n3 e3 npq nq3 hq3 hp3 prs hrs hss => ?_⟩
    have ers : rs = ms := asc_unique prs pms fun r => by rw [hrs, lead]
    subst ers
    have e03 := e02.trans e3
    have e13 := e2.trans e3
    refine ⟨_, _, _, _, rfl, rfl, sqT hq3, at0, _, rfl, neI_ (sqI hp3) (sqI (e03 _ _ hm)) ⟨_, rfl, ifF same ?_⟩⟩
    refine ⟨_, rfl, _, _, rfl, .inl (sqI (e13 _ _ h1)), _, rfl, _, _, rfl, .inl (sqI (e03 _ _ hc)), rfl, _, rfl, ifF (nef (by rw [uxl, ucl, mvl])) ?_⟩
    -- by names
    refine ⟨_, rfl, _, rfl, _, rfl, t, m, c, ns, rs, uc, cv, rfl, sqI (e03 _ _ ht), sqI (e03 _ _ hm), sqI (e03 _ _ hc), nd, by omega, pms, by omega, sub, huc.mono fun v t r => r.ex e03, f2, ftk, f1, by omega, fev, fun X2 H4 ux2 n4 e4 h4 a4 => ?_⟩
    rw [f3] at a4
    have e14 := e13.trans e4
    have e04 := e03.trans e4
    refine ⟨_, rfl, neE (goodL goodM) (by decide) (x := mv) (y := mv) (mvs_dp (sqI h4) (cl_mv a4)) (mvs_dp (sqI (e14 _ _ h1)) (mx1.mono fun v m r => r.ex e14)) ⟨_, rfl, ifF same ?_⟩⟩
    refine ⟨_, rfl, _, rfl, _, rfl, t, m, X, ns, rs, ux, mv.map clM, rfl, sqI (e04 _ _ ht), sqI (e04 _ _ hm), sqI (e14 _ _ h1), nd, by omega, pms, by omega, sub, mv_cls (mx1.mono fun v m r => r.ex e14), clok_mv f4, fun b1 H5 hb1 e5 => ?_⟩
    have hb1 : b1 = true := hb1.mpr ⟨by rw [List.length_map, mvl, f2], lead⟩
    subst hb1
    refine ⟨_, _, rfl, rfl, _, rfl, ifF rfl ?_⟩
    have e15 := e14.trans e5
    have e05 := e04.trans e5
    refine ⟨_, rfl, _, rfl, _, rfl, t, m, X, ns, rs, ux, mv.map clM, rfl, sqI (e05 _ _ ht), sqI (e05 _ _ hm), sqI (e15 _ _ h1), nd, by omega, pms, by omega, sub, mv_cls (mx1.mono fun v m r => r.ex e15), clok_mv f4, fun b2 H6 hb2 e6 => ?_⟩
    have hb2 : b2 = true := hb2.mpr ⟨by rw [List.length_map, mvl, f2], lead⟩
    subst hb2
    refine ⟨_, _, rfl, rfl, _, rfl, ifF rfl ?_⟩
    have e16 := e15.trans e6
    have e06 := e05.trans e6
    have hc6 := e06 _ _ hc
    have huc6 : AllR (TkR K H6) uc cv := huc.mono fun v t r => r.ex e06
    -- singles
    have lens : ∀ t : List Int, decide (V.int (((t.map V.int).length : Nat) : Int) = V.int 1) = decide (t.length = 1) ∧ decide (V.int (((t.map V.int).length : Nat) : Int) = V.int 2) = decide (t.length = 2) := fun t => by
      rw [decInt, decInt, List.length_map]
      exact ⟨decide_eq_decide.mpr (by omega), decide_eq_decide.mpr (by omega)⟩
    refine ⟨_, rfl, c, rfl, ⟨_, sqI hc6⟩, fun S nS => lc_it (walk_list (K := K) (a := c) (xs := uc)) (fun i H' => Ex H6 H' ∧ H' S = some (.lst ((singlesL (cv.take i)).map V.int))) ⟨Evl.Ex.new nS, upd_same⟩ (fun i H' _ z => sqI (z.1 _ _ hc6)) ?_ ?_⟩
    · rintro i v HX H7 hi ⟨e7, s7⟩ ⟨rfl, hv⟩
      obtain ⟨tk, htk, q, rfl, hq⟩ := AllR.get huc6 hv
      have hq2 := Evl.ex_t e7 hq
      refine ⟨rfl, ?_⟩
      show _
      refine ⟨_, rfl, _, _, rfl, .inr hq2, rfl, _, rfl, ?_⟩
      rw [(lens tk).1]
      have tkk : singlesL (cv.take (i + 1)) = singlesL (cv.take i) ++ (if tk.length = 1 then [tk.getD 0 0] else []) := by
        unfold singlesL
        rw [take_snoc htk, List.filter_append, List.map_append]
        congr 1
        rw [List.filter_cons]
        by_cases z : tk.length = 1
        · rw [if_pos (decide_eq_true z), if_pos z]; rfl
        · rw [if_neg (by simp [z]), if_neg z]; rfl
      have a0 : ∀ n, tk.length = n + 1 → atI (tk.map V.int) 0 = some (.int (tk.getD 0 0)) := fun n hn => by
        cases tk with
        | nil => cases hn
        | cons x r => exact at0
      refine ifB (fun cc => ?_) (fun cc => ?_)
      · have cc := of_decide_eq_true cc
        rw [if_pos cc] at tkk
        refine ⟨_, rfl, _, _, _, _, rfl, rfl, hq2, a0 0 cc, _, s7, ?_, Evl.Ex.mut e7 nS, ?_⟩
        · rw [List.length_map]
          have := singles_len (cv.take i)
          rw [List.length_take] at this
          exact le40 (by omega)
        · rw [upd_same, tkk, List.map_append]
          rfl
      · have cc := of_decide_eq_false cc
        rw [if_neg cc, List.append_nil] at tkk
        exact ⟨e7, by rw [tkk]; exact s7⟩
    rintro H7 ⟨e7, s7⟩
    rw [ucl, List.take_length] at s7
    obtain ⟨ss, hss⟩ : ∃ ss, ss = singlesL cv := ⟨_, rfl⟩
    rw [← hss] at s7 fev
    have ssl : ss.length ≤ 21 := by
      rw [hss]
      exact Nat.le_trans (singles_len cv) cvl
    have e07 := e06.trans e7
    have e17 := e16.trans e7
    refine st_eq (σ' := [some (.ref j), some (.ref t), some (.ref m), some (.int ix), some (.ref c), some (.ref X), some (.ref S), none, none, none, none, none, none]) (P := fun σ => tSeq _ _ _ σ H7) rfl ?_
    -- due
    refine ⟨(by show 0 ≤ sizeLine; decide), fun F H8 n8 e8 h8 => ?_⟩
    have s8 := e8 _ _ s7
    have e08 := e07.trans e8
    refine ⟨_, rfl, _, _, rfl, .inl (sqI s8), _, _, _, _, rfl, (by rw [List.length_map]; exact rg_two (by omega) fev), ?_⟩
    refine for_rangeC (lo := 0) (c := 2) (n := ss.length / 2) (fun i σ H' => ∃ (W : Addr) (v8 : Option V) (ws : List V), σ = [some (.ref j), some (.ref t), some (.ref m), some (.int ix), some (.ref c), some (.ref X), some (.ref S), some (.ref W), v8, none, none, none, none] ∧ Ex H8 H' ∧ H' W = some (.lst ws) ∧ AllR (IsCl K H') ws (pairsL (ss.take (2 * i)))) ⟨F, _, [], rfl, Evl.Ex.refl _, h8, AllR.nil⟩ ?_ ?_
    · rintro i σ H9 hi ⟨W, v8, ws, rfl, e9, hW, aW⟩
      have il : 2 * i + 1 < ss.length := by omega
      have pt := pairs_take il
      have wl : ws.length ≤ 21 := by
        have := pairs_len (ss.take (2 * i))
        rw [List.length_take] at this
        have := aW.1
        omega
      have s9 := e9 _ _ s8
      have c1 : atI (ss.map V.int) ((0 : Int) + (i : Nat) * 2) = some (.int (ss.getD (2 * i) 0)) := by
        refine at_of (j := 2 * i) (by omega) ?_
        rw [List.getElem?_map, List.getD_eq_getElem?_getD, List.getElem?_eq_getElem (by omega)]
        rfl
      have c2 : atI (ss.map V.int) ((0 : Int) + (i : Nat) * 2 + 1) = some (.int (ss.getD (2 * i + 1) 0)) := by
        refine at_of (j := 2 * i + 1) (by omega) ?_
        rw [List.getElem?_map, List.getD_eq_getElem?_getD, List.getElem?_eq_getElem il]
        rfl
      refine ⟨_, rfl, _, rfl, _, rfl, _, _, _, _, rfl, rfl, sqI s9, c1, (by show 2 ≤ sizeLine; decide), fun p10 H10 n10 e10 h10 => ?_⟩
      refine ⟨_, rfl, _, rfl, _, _, rfl, rfl, _, _, _, _, rfl, rfl, sqI (e10 _ _ s9), c2, _, _, rfl, rfl, (by show 2 ≤ sizeLine; decide), fun p11 H11 n11 e11 h11 => ?_⟩
      refine ⟨(by show 2 ≤ sizeLine; decide), fun p12 H12 n12 e12 h12 => ?_⟩
      have e912 := e10.trans (e11.trans e12)
      refine ⟨_, _, _, _, rfl, rfl, e912 _ _ hW, h12, Nat.le_trans (show ws.length + 2 ≤ 30 by omega) (by decide), fun p13 H13 n13 e13 h13 => ?_⟩
      have e913 := e912.trans e13
      refine ⟨p13, _, _, rfl, e9.trans e913, h13, ?_⟩
      rw [pt]
      refine AllR.append (aW.mono fun v x r => r.ex e913) ?_
      have := AllR.snoc (R := IsCl K H13) (AllR.one (R := IsCl K H13) (v := V.ref p10) (x := (("click" : Str), ss.getD (2 * i) 0)) ⟨p10, rfl, sqT ((e11.trans (e12.trans e13)) _ _ h10)⟩) (v := V.ref p11) (x := (("range" : Str), ss.getD (2 * i + 1) 0 - 1)) ⟨p11, rfl, sqT ((e12.trans e13) _ _ h11)⟩
      exact this
    rintro σ H9 ⟨W, v8, ws, rfl, e9, hW, aW⟩
    have tl : ss.take (2 * (ss.length / 2)) = ss := List.take_of_length_le (by omega)
    rw [tl] at aW
    have wl : ws.length ≤ 21 := by
      have := pairs_len ss
      have := aW.1
      omega
    have e09 := e08.trans e9
    have e19 := e17.trans (e8.trans e9)
    have hc9 := e09 _ _ hc
    refine ⟨_, rfl, _, rfl, _, rfl, c, rfl, ⟨_, sqI hc9⟩, fun D nD => lc_it (walk_list (K := K) (a := c) (xs := uc)) (fun i H' => ∃ zs, Ex H9 H' ∧ H' D = some (.lst zs) ∧ AllR (IsCl K H') zs (((cv.take i).filter fun t : List Int => decide (t.length = 2)).map fun t : List Int => (("click" : Str), t.getD 0 0))) ⟨[], Evl.Ex.new nD, upd_same, AllR.nil⟩ (fun i H' _ ⟨_, e, _⟩ => sqI (e _ _ hc9)) ?_ ?_⟩
    · rintro i v HX H10 hi ⟨zs, e10, d10, a10⟩ ⟨rfl, hv⟩
      obtain ⟨tk, htk, q, rfl, hq⟩ := AllR.get huc hv
      have hq4 := Evl.ex_t (e09.trans e10) hq
      refine ⟨rfl, ?_⟩
      show _
      refine ⟨_, rfl, _, _, rfl, .inr hq4, rfl, _, rfl, ?_⟩
      rw [(lens tk).2]
      have a0 : ∀ n, tk.length = n + 1 → atI (tk.map V.int) 0 = some (.int (tk.getD 0 0)) := fun n hn => by
        cases tk with
        | nil => cases hn
        | cons x r => exact at0
      have zl : zs.length ≤ 21 := by
        have := a10.1
        rw [List.length_map] at this
        have h2 := List.length_filter_le (fun t : List Int => decide (t.length = 2)) (cv.take i)
        rw [List.length_take] at h2
        omega
      have tkk : ((cv.take (i + 1)).filter fun t : List Int => decide (t.length = 2)).map (fun t : List Int => (("click" : Str), t.getD 0 0)) = ((cv.take i).filter fun t : List Int => decide (t.length = 2)).map (fun t : List Int => (("click" : Str), t.getD 0 0)) ++ (if tk.length = 2 then [(("click" : Str), tk.getD 0 0)] else []) := by
        rw [take_snoc htk, List.filter_append, List.map_append]
        congr 1
        rw [List.filter_cons]
        by_cases z : tk.length = 2
        · rw [if_pos (decide_eq_true z), if_pos z]; rfl
        · rw [if_neg (by simp [z]), if_neg z]; rfl
      refine ifB (fun cc => ?_) (fun cc => ?_)
      · have cc := of_decide_eq_true cc
        rw [if_pos cc] at tkk
        refine ⟨_, rfl, _, _, _, _, rfl, rfl, hq4, a0 1 cc, (by show 2 ≤ sizeLine; decide), fun p11 H11 n11 e11 h11 => ?_⟩
        have d11 := e11 _ _ d10
        have np : p11 ≠ D := (ne_of_none d10 n11).symm
        have ej : Exj D H10 (upd H11 D (.lst (zs ++ [.ref p11]))) := (Exj.of e11).upd
        refine ⟨zs, d11, le40 (by omega), zs ++ [.ref p11], Evl.Ex.mut (e10.trans e11) nD, upd_same, ?_⟩
        rw [tkk]
        exact AllR.snoc (a10.mono fun v x r => r.exj ej d10) ⟨p11, rfl, sqT (by rw [upd_ne np]; exact h11)⟩
      · have cc := of_decide_eq_false cc
        rw [if_neg cc, List.append_nil] at tkk
        exact ⟨zs, e10, d10, by rw [tkk]; exact a10⟩
    rintro H10 ⟨zs, e10, d10, a10⟩
    rw [ucl, List.take_length] at a10
    have zl : zs.length ≤ 21 := by
      have := a10.1
      rw [List.length_map] at this
      have h2 := List.length_filter_le (fun t : List Int => decide (t.length = 2)) cv
      omega
    refine ⟨_, _, _, _, rfl, rfl, e10 _ _ hW, d10, Nat.le_trans (show ws.length + zs.length ≤ 50 by omega) (by decide), fun p11 H11 n11 e11 h11 => ?_⟩
    have e111 := e19.trans (e10.trans e11)
    have e011 := e09.trans (e10.trans e11)
    have a11 : AllR (IsCl K H11) (ws ++ zs) (mv.map clM) := by
      rw [← f3]
      unfold clicksL
      rw [← hss]
      exact AllR.append (aW.mono fun v x r => r.ex (e10.trans e11)) (a10.mono fun v x r => r.ex e11)
    have h1_11 := e111 _ _ h1
    have mx11 : AllR (MvR K H11) ux mv := mx1.mono fun v m r => r.ex e111
    refine neE (goodL goodM) (by decide) (x := mv) (y := mv) (mvs_dp (sqI h1_11) mx11) (mvs_dp (sqI h11) (cl_mv a11)) ⟨_, rfl, ifF same ?_⟩
    -- near ones
    refine ⟨_, rfl, _, _, rfl, sqI h1_11, fun p12 H12 n12 e12 h12 => ?_⟩
    have h1_12 := e12 _ _ h1_11
    refine ⟨_, rfl, _, rfl, _, _, rfl, sqI h1_12, fun p13 H13 n13 e13 h13 => ?_⟩
    rw [show (1 : Int) = ((1 : Nat) : Int) from rfl, cut_from] at h13
    have h1_13 := e13 _ _ h1_12
    refine ⟨_, rfl, _, rfl, _, rfl, _, _, rfl, sqI h1_13, fun p14 H14 n14 e14' h14 => ?_⟩
    rw [show (1 : Int) = ((1 : Nat) : Int) from rfl, cut_to] at h14
    have h1_14 := e14' _ _ h1_13
    refine ⟨_, _, _, _, rfl, rfl, h1_14, h14, Nat.le_trans (show ux.length + (ux.take 1).length ≤ 50 by rw [List.length_take]; omega) (by decide), fun p15 H15 n15 e15' h15 => ?_⟩
    have h1_15 := e15' _ _ h1_14
    refine ⟨_, rfl, _, rfl, _, _, rfl, sqI h1_15, fun p16 H16 n16 e16' h16 => ?_⟩
    rw [show (1 : Int) = ((1 : Nat) : Int) from rfl, cut_from] at h16
    have h1_16 := e16' _ _ h1_15
    refine ⟨_, rfl, _, rfl, _, _, rfl, sqI h1_16, fun p17 H17 n17 e17' h17 => ?_⟩
    rw [show (1 : Int) = ((1 : Nat) : Int) from rfl, cut_to] at h17
    refine ⟨_, _, _, _, rfl, rfl, e17' _ _ h16, h17, Nat.le_trans (show (ux.drop 1).length + (ux.take 1).length ≤ 50 by rw [List.length_take, List.length_drop]; omega) (by decide), fun p18 H18 n18 e18 h18 => ?_⟩
    have e1118 := e12.trans (e13.trans (e14'.trans (e15'.trans (e16'.trans (e17'.trans e18)))))
    have e018 := e011.trans e1118
    have mx18 : AllR (MvR K H18) ux mv := mx11.mono fun v m r => r.ex e1118
    have t18 := e018 _ _ ht
    refine ⟨_, rfl, _, rfl, _, _, rfl, .inl (sqI t18), j, _, _, _, rfl, hj.ex e018, by omega, (by rw [List.length_map]; omega), (by rw [List.length_map]; omega), by decide, by decide, fun p19 H19 u19 cs19 n19 x19 p19j j19 h19 c19 ok19 l19 => ?_⟩
    have szT : (((ns.map V.int).length : Nat) : Int).toNat = ns.length := by rw [List.length_map]; omega
    rw [szT] at ok19
    obtain ⟨mv19, rfl, okm19⟩ := mvs_of ok19
    rw [List.length_map] at l19
    have jL : NTup H18 j := by
      obtain ⟨x, y, z, hj', _⟩ := hj.ex e018
      exact NTup.lst hj'
    have l1 : MvL K ns.length H18 (.ref p12) := ⟨p12, _, mv.reverse, rfl, (e13.trans (e14'.trans (e15'.trans (e16'.trans (e17'.trans e18))))) _ _ h12, rev1 mx18, fun m hm => f4 m (List.mem_reverse.mp hm), by rw [List.length_reverse]; omega⟩
    have l2 : MvL K ns.length H18 (.ref p13) := ⟨p13, _, mv.drop 1, rfl, (e14'.trans (e15'.trans (e16'.trans (e17'.trans e18)))) _ _ h13, drop1 mx18, fun m hm => f4 m (List.mem_of_mem_drop hm), by rw [List.length_drop]; omega⟩
    have l3 : MvL K ns.length H18 (.ref p15) := ⟨p15, _, mv ++ mv.take 1, rfl, (e16'.trans (e17'.trans e18)) _ _ h15, AllR.append mx18 (mx18.take 1), fun m hm => (List.mem_append.mp hm).elim (f4 m) (fun z => f4 m (List.mem_of_mem_take z)), by rw [List.length_append, List.length_take]; omega⟩
    have l4 : MvL K ns.length H18 (.ref p18) := ⟨p18, _, mv.drop 1 ++ mv.take 1, rfl, h18, AllR.append (drop1 mx18) (mx18.take 1), fun m hm => (List.mem_append.mp hm).elim (fun z => f4 m (List.mem_of_mem_drop z)) (fun z => f4 m (List.mem_of_mem_take z)), by rw [List.length_append, List.length_take, List.length_drop]; omega⟩
    have keep : ∀ {q : Addr}, q ≠ j → MvL K ns.length H18 (.ref q) → MvL K ns.length H19 (.ref q) := fun {q} nq ⟨q', us, mw, h1, h2, h3, h4⟩ => by
      cases h1
      exact ⟨q, us, mw, rfl, x19 _ _ nq h2, h3.mono fun v m r => r.keep x19 jL, h4⟩
    have l1' := keep ((hj.ex e011).ne n12) l1
    have l2' := keep ((hj.ex (e011.trans e12)).ne n13) l2
    have l3' := keep ((hj.ex (e011.trans (e12.trans (e13.trans e14')))).ne n15) l3
    have l4' := keep ((hj.ex (e011.trans (e12.trans (e13.trans (e14'.trans (e15'.trans (e16'.trans e17'))))))).ne n18) l4
    have l5' : MvL K ns.length H19 (.ref p19) := ⟨p19, u19, mv19, rfl, h19, cl_mv ⟨c19.1, c19.cls.2⟩, okm19, by omega⟩
    have x019 : Exj j H H19 := (Exj.of e018).trans x19
    refine ⟨(by show 5 ≤ sizeLine; decide), fun L H20 n20 e20 h20 => ?_⟩
    have x020 : Exj j H H20 := x019.trans (Exj.of e20)
    have j20 := j19.ex e20
    have t20 := x020 _ _ tj ht
    have m20 := x020 _ _ mj hm
    have c20 := x020 _ _ cj hc
    have jL0 : NTup H j := by
      obtain ⟨x, y, z, hj', _⟩ := hj
      exact NTup.lst hj'
    have huc20 : AllR (TkR K H20) uc cv := huc.mono fun v t ⟨q, h1, h2⟩ => ⟨q, h1, sqT_keep x020 jL0 h2⟩
    have lall : ∀ v ∈ [V.ref p12, .ref p13, .ref p15, .ref p18, .ref p19], MvL K ns.length H20 v := fun v hv => by
      simp only [List.mem_cons, List.not_mem_nil, or_false] at hv
      rcases hv with rfl | rfl | rfl | rfl | rfl
      · exact l1'.ex e20
      · exact l2'.ex e20
      · exact l3'.ex e20
      · exact l4'.ex e20
      · exact l5'.ex e20
    refine st_eq (σ' := [some (.ref j), some (.ref t), some (.ref m), some (.int ix), some (.ref c), some (.ref X), some (.ref S), some (.ref W), v8, some (.ref L), none, none, none]) (P := fun σ => tSeq _ _ _ σ H20) rfl ?_
    refine ⟨_, rfl, L, rfl, ⟨_, sqI h20⟩, for_list (K := K) (a := L) (xs := [V.ref p12, .ref p13, .ref p15, .ref p18, .ref p19]) (fun i σ H' => ∃ v10 v11, σ = [some (.ref j), some (.ref t), some (.ref m), some (.int ix), some (.ref c), some (.ref X), some (.ref S), some (.ref W), v8, some (.ref L), v10, v11, none] ∧ Ex H20 H') ⟨_, _, rfl, Evl.Ex.refl _⟩ (fun i σ H' _ ⟨_, _, _, e⟩ => sqI (e _ _ h20)) ?_ ?_⟩
    · rintro i v σ H21 hv ⟨v10, v11, rfl, e21⟩
      obtain ⟨q, us, mw, rfl, hq, am, okm, lm⟩ := (lall v (List.mem_of_getElem? hv)).ex e21
      show _
      have usl := am.1
      refine ⟨fun v H' => Ex H21 H' ∧ ∃ b : Bool, v = .bl b ∧ (b = true ↔ ((∀ r, r ∈ rs ↔ (done ns [] none (mw.map clM)).1 r = true) ∧ mw.length = cv.length)), ?_, ?_⟩
      · refine ⟨_, rfl, (by show 0 ≤ sizeLine; decide), fun p22 H22 n22 e22 h22 => ?_⟩
        have e2022 := e21.trans e22
        refine ⟨_, rfl, t, p22, q, ns, [], us, mw.map clM, none, rfl, sqI (e2022 _ _ t20), sqI h22, sqI (e22 _ _ hq), nd, by omega, List.nodup_nil, (by show 0 ≤ 1000; omega), mv_cls (am.mono fun v m r => r.ex e22), clok_mv okm, fun p23 q23 H23 ws23 n23 e23 npq23 nq23 hq23 hp23 pws hws hwss => ?_⟩
        have e2023 := e2022.trans e23
        have e2123 := e22.trans e23
        have iff1 : ws23 = rs ↔ ∀ r, r ∈ rs ↔ (done ns [] none (mw.map clM)).1 r = true := by
          constructor
          · intro g
            subst g
            exact hws
          · intro g
            exact asc_unique pws pms fun r => by rw [hws, g]
        refine ⟨_, _, _, _, rfl, rfl, sqT hq23, at0, _, rfl, eqI_ (sqI hp23) (sqI (e2023 _ _ m20)) ⟨_, rfl, ?_⟩⟩
        refine ifB (fun cc => ?_) (fun cc => ?_)
        · have cc := of_decide_eq_true cc
          refine ⟨_, rfl, _, _, rfl, .inl (sqI (e2123 _ _ hq)), _, rfl, _, _, rfl, .inl (sqI (e2023 _ _ c20)), rfl, e2123, _, rfl, ?_⟩
          rw [decInt, usl, ucl, decide_eq_true_iff]
          constructor
          · intro g
            exact ⟨iff1.mp cc, by omega⟩
          · rintro ⟨_, g⟩
            omega
        · have cc := of_decide_eq_false cc
          refine ⟨e2123, _, rfl, ?_⟩
          constructor
          · intro g
            cases g
          · rintro ⟨g, _⟩
            exact absurd (iff1.mpr g) cc
      rintro v H23 ⟨e2123, br, rfl, hbr⟩
      have e2023 := e21.trans e2123
      refine ⟨_, rfl, _, rfl, _, rfl, t, m, q, ns, rs, us, mw.map clM, rfl, sqI (e2023 _ _ t20), sqI (e2023 _ _ m20), sqI (e2123 _ _ hq), nd, by omega, pms, by omega, sub, mv_cls (am.mono fun v m r => r.ex e2123), clok_mv okm, fun b3 H24 hb3 e24 => ?_⟩
      have eb3 : b3 = br := by
        rw [Bool.eq_iff_iff, hb3, hbr, List.length_map]
        constructor
        · rintro ⟨g1, g2⟩
          exact ⟨g2, by omega⟩
        · rintro ⟨g1, g2⟩
          exact ⟨by omega, g1⟩
      rw [← eb3]
      refine ⟨_, .bool _, rfl, .bl _, (Shw.bool _).mono (by decide) (by decide), ?_⟩
      refine ⟨_, rfl, _, .bool _, rfl, .bl _, (Shw.bool _).mono (by decide) (by decide), ?_⟩
      refine ⟨rfl, _, rfl, ifF same ?_⟩
      exact ⟨_, _, rfl, e2023.trans e24⟩
    rintro σ H21 ⟨v10, v11, rfl, e21⟩
    refine ⟨_, rfl, _, rfl, _, rfl, t, m, ns, rs, ix, rfl, sqI (e21 _ _ t20), sqI (e21 _ _ m20), nd, by omega, pms, by omega, sub, i0, i1, fun p22 H22 u22 n22 e22 h22 a22 => ?_⟩
    rw [← hcv] at a22
    have dp1 : Dp K H22 (.ref p22) (eCov cv) := .lst (sqI h22) (a22.dp fun v t ⟨q, a, b⟩ => by rw [a]; exact .tup b (dpI t))
    have dp2 : Dp K H22 (.ref c) (eCov cv) := .lst (sqI ((e21.trans e22) _ _ c20)) ((huc20.mono fun v t r => r.ex (e21.trans e22)).dp fun v t ⟨q, a, b⟩ => by rw [a]; exact .tup b (dpI t))
    refine ⟨_, eCov cv, rfl, dp1, sh, ?_⟩
    refine ⟨_, rfl, _, eCov cv, rfl, dp2, sh, ?_⟩
    refine ⟨rfl, ?_⟩
    show Q (.bl (decide (V.str _ = V.str _))) _
    rw [decide_eq_true rfl]
    exact k _ (x020.trans (Exj.of (e21.trans e22))) ((j20.ex (e21.trans e22)).mono (by omega))
end
end K31
set_option Elab.async false
set_option pp.maxSteps 1200
set_option linter.all false
set_option maxRecDepth 100000
set_option maxHeartbeats 4000000
namespace K31
open PySem L2 My
def sp_law (K : PySem.W.Frag) : Sp := fun vs H Q _ => ∃ (a : Addr) (ns : List Int), vs = [.ref a] ∧ SqL K H a (ns.map V.int) ∧ ns.length ≤ 63 ∧ ∀ H', Q (.bl true) H'
theorem cvs_dp {K : PySem.W.Frag} {H : Hp} {p : Addr} {us : List V} {L : List (List (List Int))} (h : H p = some (.lst us)) (a : AllR (CvR K H) us L) : Dp K H (.ref p) (eL eCov L) := .lst (sqI h) (a.dp fun v k r => r.dp)
theorem tks_dp {K : PySem.W.Frag} {H : Hp} {p : Addr} {us : List V} {cv : List (List Int)} (h1 : H p = some (.lst us)) (h2 : AllR (TkR K H) us cv) : Dp K H (.ref p) (eCov cv) := .lst (sqI h1) (h2.dp fun v t ⟨q, a, b⟩ => by rw [a]; exact .tup b (dpI t))
theorem best_at {ps : List Int} {i : Int} (h0 : 0 ≤ i) (h1 : i < cntP ps) : (bestC ps)[i.toNat]? = some (coverL (blocksL ps) i) := by
  unfold bestC
  rw [List.getElem?_map]
  have : (upN (cntP ps).toNat)[i.toNat]? = some i := by
    rw [upN_at (by omega)]
    congr 1
    omega
  rw [this]
  rfl
section
variable {w : World} {K : PySem.W.Frag} {mg : Str → Option Value} {base : Heap}
theorem ok_law (T : Txt K mg) : FnOkG PR w K mg base CX0 17 T.a_law T.d_law ["_law_script"] (sp_law K) := by
  refine T.f_law.okG sc_law (fun vs H Q E h => ?_) (fun cdv A0 outer s H vs Q E hr gd h => ?_)
  · obtain ⟨a, ns, rfl, _⟩ := h
    rfl
  · obtain ⟨sa, sc, rfl, hs, hsl, k⟩ := h
    refine ⟨_, (pss_cons (ps_for PassesOwn.never rfl (pi_range1 (by rfl) T.z_range (pa_cons (pe_callB (call_max2 rfl) (by rfl) T.z_max (by decide +kernel) (pa_cons pe_int (pa_cons (pe_callB (call_min2 rfl) (by rfl) T.z_min (by decide +kernel) (pa_cons pe_int (pa_cons (pe_callB call_len_seq (by rfl) T.z_len PySem.boot_len (pa_cons (pv 0) pa_nil)) pa_nil))) pa_nil))) pa_nil)) (pg_name (i := 1) sc_law.nd rfl (by first | exact Or.inl rfl | exact Or.inr rfl)) (pss_cons (ps_set (i := 2) sc_law.nd rfl (by first | exact Or.inl rfl | exact Or.inr rfl) (pe_call (ok__law_source T) (hr.mono (by omega)) (by rfl) T.g__law_source T.f__law_source.kp (b__law_source T) .nil pass0 (pa_cons (pv 0) (pa_cons (pv 1) pa_nil)))) (pss_cons (ps_set (i := 3) sc_law.nd rfl (by first | exact Or.inl rfl | exact Or.inr rfl) (pe_ix ix_list (pe_lstG (pa_cons (pe_call (ok__law_draw T) (hr.mono (by omega)) (by rfl) T.g__law_draw T.f__law_draw.kp (b__law_draw T) .nil pass0 (pa_cons (pv 2) (pa_cons pe_int pa_nil))) (pa_cons (pe_call (ok__law_draw T) (hr.mono (by omega)) (by rfl) T.g__law_draw T.f__law_draw.kp (b__law_draw T) .nil pass0 (pa_cons (pv 2) (pa_cons pe_int pa_nil))) (pa_cons pe_int pa_nil)))) (pe_ix ix_list (pe_lstG (pa_cons pe_int (pa_cons pe_int (pa_cons pe_int (pa_cons pe_int (pa_cons pe_int (pa_cons pe_int pa_nil))))))) (pe_call (ok__law_draw T) (hr.mono (by omega)) (by rfl) T.g__law_draw T.f__law_draw.kp (b__law_draw T) .nil pass0 (pa_cons (pv 2) (pa_cons pe_int pa_nil))) (fun _ _ => rfl)) (fun _ _ => rfl))) (pss_cons (ps_set (i := 4) sc_law.nd rfl (by first | exact Or.inl rfl | exact Or.inr rfl) (pe_call (ok__law_some T) (hr.mono (by omega)) (by rfl) T.g__law_some T.f__law_some.kp (b__law_some T) .nil pass0 (pa_cons (pv 2) (pa_cons (pe_listRgG (by rfl) (by rfl) T.z_list (prg_1 (by rfl) T.z_range (pe_callB (call_max2 rfl) (by rfl) T.z_max (by decide +kernel) (pa_cons pe_int (pa_cons (pv 3) pa_nil))))) (pa_cons (pv 3) pa_nil))))) (pss_cons (ps_set (i := 5) sc_law.nd rfl (by first | exact Or.inl rfl | exact Or.inr rfl) (pe_call (ok__law_marks T) (hr.mono (by omega)) (by rfl) T.g__law_marks T.f__law_marks.kp (b__law_marks T) .nil pass0 (pa_cons (pv 2) (pa_cons (pv 4) pa_nil)))) (pss_cons (ps_set (i := 6) sc_law.nd rfl (by first | exact Or.inl rfl | exact Or.inr rfl) (pe_call (ok__law_borders T) (hr.mono (by omega)) (by rfl) T.g__law_borders T.f__law_borders.kp (b__law_borders T) .nil pass0 (pa_cons (pv 4) (pa_cons (pv 5) pa_nil)))) (pss_cons (ps_asg (pe_call (ok__law_number T) (hr.mono (by omega)) (by rfl) T.g__law_number T.f__law_number.kp (b__law_number T) .nil pass0 (pa_cons (pv 6) pa_nil)) (pg_tup rfl (pgs_cons (pg_name (i := 7) sc_law.nd rfl (by first | exact Or.inl rfl | exact Or.inr rfl)) (pgs_cons (pg_name (i := 8) sc_law.nd rfl (by first | exact Or.inl rfl | exact Or.inr rfl)) pgs_nil)))) (pss_cons (ps_if (PW.pt (pw_or (pt_cmpR op_ne (pe_callB (cr_reprA gd hr.units) (by rfl) T.z_repr (by decide +kernel) (pa_cons (pe_call (ok_count_covers T) (hr.mono (by omega)) (by rfl) T.g_count_covers T.f_count_covers.kp (b_count_covers T) .nil passL (pa_cons (pv 4) (pa_cons (pv 5) pa_nil))) pa_nil)) (pe_callB (cr_reprA gd hr.units) (by rfl) T.z_repr (by decide +kernel) (pa_cons (pv 8) pa_nil)) (nomark _)) (pw_or1 (pt_cmpR op_ne (pe_callK0 (ok_count_covers T) (hr.mono (by omega)) (by rfl) T.g_count_covers T.f_count_covers.kp (kb_count_covers_0_marks_there T) passL (pk_cons (pv 5) (pk_cons (pv 4) pk_nil))) (pv 8) (nomark _))))) (pss_one (ps_ret pe_bl)) pss_nil) (pss_cons (ps_set (i := 9) sc_law.nd rfl (by first | exact Or.inl rfl | exact Or.inr rfl) (pe_cut (pe_ifExp (pt_cmpR op_lt (pv 3) pe_int (nomark _)) (pe_call (ok__law_covers T 13) (hr.mono (by omega)) (by rfl) T.g__law_covers T.f__law_covers.kp (b__law_covers T) .nil pass0 (pa_cons (pv 6) pa_nil)) (pe_lstG pa_nil)))) (pss_cons (ps_if (pt_cut (PW.pt (pw_and (pt_cmpR op_lt (pv 3) pe_int (nomark _)) (pw_and1 (pt_cmpR op_ne (pe_callB call_len_seq (by rfl) T.z_len PySem.boot_len (pa_cons (pv 9) pa_nil)) (pv 8) (nomark _)))))) (pss_one (ps_ret pe_bl)) pss_nil) (pss_cons (ps_for PassesOwn.never rfl (pi_range1 (by rfl) T.z_range (pa_cons (pe_callB (call_min2 rfl) (by rfl) T.z_min (by decide +kernel) (pa_cons pe_int (pa_cons (pv 8) pa_nil))) pa_nil)) (pg_name (i := 10) sc_law.nd rfl (by first | exact Or.inl rfl | exact Or.inr rfl)) (pss_cons (ps_set (i := 11) sc_law.nd rfl (by first | exact Or.inl rfl | exact Or.inr rfl) (pe_ix ix_list (pe_lstG (pa_cons pe_int (pa_cons (pe_op op_sub (pv 8) pe_int) (pa_cons (pe_call (ok__law_draw T) (hr.mono (by omega)) (by rfl) T.g__law_draw T.f__law_draw.kp (b__law_draw T) .nil pass0 (pa_cons (pv 2) (pa_cons (pv 8) pa_nil))) (pa_cons (pe_call (ok__law_draw T) (hr.mono (by omega)) (by rfl) T.g__law_draw T.f__law_draw.kp (b__law_draw T) .nil pass0 (pa_cons (pv 2) (pa_cons (pv 8) pa_nil))) pa_nil))))) (pv 10) (fun _ _ => rfl))) (pss_cons (ps_set (i := 12) sc_law.nd rfl (by first | exact Or.inl rfl | exact Or.inr rfl) (pe_call (ok_cover_at T) (hr.mono (by omega)) (by rfl) T.g_cover_at T.f_cover_at.kp (b_cover_at T) .nil passL (pa_cons (pv 4) (pa_cons (pv 5) (pa_cons (pv 11) pa_nil))))) (pss_cons (ps_if (pt_cut (PW.pt (pw_or (PW.pt (pw_and (pt_cmpR (op_neD hr.units) (pv 9) (pe_lstG pa_nil) (nomark _)) (pw_and1 (pt_cmpR (op_neD hr.units) (pv 12) (pe_ix ix_list (pv 9) (pv 11) (fun _ _ => rfl)) (nomark _))))) (pw_or1 (pt_cmpR op_ne (pe_callB call_len_seq (by rfl) T.z_len PySem.boot_len (pa_cons (pv 12) pa_nil)) (pv 7) (nomark _)))))) (pss_one (ps_ret pe_bl)) pss_nil) (pss_cons (ps_set (i := 13) sc_law.nd rfl (by first | exact Or.inl rfl | exact Or.inr rfl) (pe_lstG pa_nil)) (pss_cons (ps_for PassesOwn.never rfl (pi_list (pv 12)) (pg_name (i := 14) sc_law.nd rfl (by first | exact Or.inl rfl | exact Or.inr rfl)) (pss_one (ps_set (i := 13) sc_law.nd rfl (by first | exact Or.inl rfl | exact Or.inr rfl) (pe_op op_catG (pv 13) (pe_callTy call_listG (by rfl) T.z_list (by decide +kernel) (pa_cons (pv 14) pa_nil)))))) (pss_cons (ps_if (pt_cmpR (op_neD hr.units) (pv 13) (pv 6) (nomark _)) (pss_one (ps_ret pe_bl)) pss_nil) (pss_cons (ps_if (pt_cut (PW.pt (pw_and (pt_cmpR op_lt (pe_op op_add (pv 11) pe_int) (pv 8) (nomark _)) (pw_and1 (pt_not (pt_cmpR (op_ltD (u65 hr)) (pv 12) (pe_call (ok_cover_at T) (hr.mono (by omega)) (by rfl) T.g_cover_at T.f_cover_at.kp (b_cover_at T) .nil passL (pa_cons (pv 4) (pa_cons (pv 5) (pa_cons (pe_op op_add (pv 11) pe_int) pa_nil)))) (nomark _))))))) (pss_one (ps_ret pe_bl)) pss_nil) (pss_cons (ps_if (pt_not (pt_val (pe_callG (ok__law_cover_right T) (hr.mono (by omega)) gd (by rfl) T.g__law_cover_right T.f__law_cover_right.kp (b__law_cover_right T) .nil pass0 (pa_cons (pv 2) (pa_cons (pv 4) (pa_cons (pv 5) (pa_cons (pv 11) (pa_cons (pv 12) pa_nil)))))))) (pss_one (ps_ret pe_bl)) pss_nil) (pss_one (ps_if (pt_cut (PW.pt (pw_and (pt_cmpR op_eq (pv 11) pe_int (nomark _)) (pw_and1 (pt_cmpR (op_neD hr.units) (pe_call (ok_cheapest_clicks T) (hr.mono (by omega)) (by rfl) T.g_cheapest_clicks T.f_cheapest_clicks.kp (b_cheapest_clicks T) .nil passL (pa_cons (pv 4) (pa_cons (pv 5) pa_nil))) (pe_call (ok_clicks_of_cover T) (hr.mono (by omega)) (by rfl) T.g_clicks_of_cover T.f_clicks_of_cover.kp (b_clicks_of_cover T) .nil passL (pa_cons (pv 4) (pa_cons (pv 5) (pa_cons (pv 12) pa_nil)))) (nomark _)))))) (pss_one (ps_ret pe_bl)) pss_nil))))))))))) (pss_one (ps_if (pt_not (pt_val (pe_callG (ok__law_makers_right T) (hr.mono (by omega)) gd (by rfl) T.g__law_makers_right T.f__law_makers_right.kp (b__law_makers_right T) .nil pass0 (pa_cons (pv 4) (pa_cons (pe_call (ok__law_clicks T) (hr.mono (by omega)) (by rfl) T.g__law_clicks T.f__law_clicks.kp (b__law_clicks T) .nil pass0 (pa_cons (pv 2) (pa_cons (pv 3) (pa_cons (pe_ix ix_list (pe_lstG (pa_cons pe_int (pa_cons pe_int (pa_cons pe_int pa_nil)))) (pe_call (ok__law_draw T) (hr.mono (by omega)) (by rfl) T.g__law_draw T.f__law_draw.kp (b__law_draw T) .nil pass0 (pa_cons (pv 2) (pa_cons pe_int pa_nil))) (fun _ _ => rfl)) pa_nil)))) pa_nil))))) (pss_one (ps_ret pe_bl)) pss_nil))))))))))))) (pss_one (ps_ret pe_bl))), ?_⟩
    have em : ∃ c : Nat, (if (if ((sc.map V.int).length : Int) < 2 then ((sc.map V.int).length : Int) else 2) > 1 then (if ((sc.map V.int).length : Int) < 2 then ((sc.map V.int).length : Int) else 2) else 1) = (c : Int) ∧ c ≤ 2 := by
      rw [List.length_map]
      refine ⟨max 1 (min 2 sc.length), ?_, by omega⟩
      split <;> split <;> omega
    obtain ⟨c, ec, c2⟩ := em
    refine ⟨_, rfl, _, _, rfl, .inl hs, _, _, rfl, _, _, rfl, ?_⟩
    rw [ec]
    refine ⟨_, rfl, (by omega), (by omega), for_range (lo := 0) (n := ((c : Int)).toNat) (fun i σ H' => ∃ v1 v2 v3 v4 v5 v6 v7 v8 v9 v10 v11 v12 v13 v14, σ = [some (.ref sa), v1, v2, v3, v4, v5, v6, v7, v8, v9, v10, v11, v12, v13, v14] ∧ SqL K H' sa (sc.map V.int)) ⟨_, _, _, _, _, _, _, _, _, _, _, _, _, _, rfl, hs⟩ ?_ ?_⟩
    · rintro i σ H0 hi ⟨v1, v2, v3, v4, v5, v6, v7, v8, v9, v10, v11, v12, v13, v14, rfl, hs0⟩
      refine ⟨_, rfl, _, rfl, sa, sc, _, rfl, hs0, by omega, by omega, fun j H1 nj e1 j1 => ?_⟩
      refine ⟨_, rfl, j, _, _, rfl, j1, by decide, by decide, by decide, fun d1 H2 d1a d1b e2 j2 => ?_⟩
      refine ⟨_, rfl, j, _, _, rfl, j2, by decide, by decide, by decide, fun d2 H3 d2a d2b e3 j3 => ?_⟩
      refine ⟨(by show 3 ≤ sizeLine; decide), fun p4 H4 n4 e4 h4 => ?_⟩
      refine ⟨(by show 6 ≤ sizeLine; decide), fun p5 H5 n5 e5 h5 => ?_⟩
      have j5 := j3.ex (e4.trans e5)
      refine ⟨_, rfl, j, _, _, rfl, j5, by decide, by decide, by decide, fun d6 H6 d6a d6b e6 j6 => ?_⟩
      have n4j := j3.ne n4
      have n5j := (j3.ex e4).ne n5
      obtain ⟨sel, hsel, at1'⟩ : ∃ sel : Int, (0 ≤ sel ∧ sel ≤ 2) ∧ atI [V.int 0, .int 0, .int 0, .int 1, .int 1, .int 2] d6 = some (.int sel) := by
        rcases (show d6 = 0 ∨ d6 = 1 ∨ d6 = 2 ∨ d6 = 3 ∨ d6 = 4 ∨ d6 = 5 by omega) with z | z | z | z | z | z
        · exact ⟨0, by omega, by rw [z]; rfl⟩
        · exact ⟨0, by omega, by rw [z]; rfl⟩
        · exact ⟨0, by omega, by rw [z]; rfl⟩
        · exact ⟨1, by omega, by rw [z]; rfl⟩
        · exact ⟨1, by omega, by rw [z]; rfl⟩
        · exact ⟨2, by omega, by rw [z]; rfl⟩
      obtain ⟨size, hsz, at2'⟩ : ∃ size : Int, (0 ≤ size ∧ size ≤ 40) ∧ atI [V.int d1, .int d2, .int 40] sel = some (.int size) := by
        rcases (show sel = 0 ∨ sel = 1 ∨ sel = 2 by omega) with z | z | z
        · exact ⟨d1, by omega, by rw [z]; rfl⟩
        · exact ⟨d2, by omega, by rw [z]; rfl⟩
        · exact ⟨40, by omega, by rw [z]; rfl⟩
      refine ⟨_, _, _, _, rfl, rfl, sqI (e6 _ _ n5j h5), at1', _, _, _, _, rfl, rfl, sqI (e6 _ _ n4j (e5 _ _ h4)), at2', ?_⟩
      obtain ⟨sz, rfl⟩ : ∃ sz : Nat, size = (sz : Int) := ⟨size.toNat, by omega⟩
      refine st_eq (σ' := [some (.ref sa), some (.int (0 + (i : Int))), some (.ref j), v3, v4, v5, v6, v7, v8, v9, v10, v11, v12, v13, v14]) (P := fun σ => gName 3 (V.int (sz : Nat)) σ H6 _) rfl ?_
      have b6 : Jug H6 j 10 := j6.mono (by omega)
      obtain ⟨up, hup, upb⟩ : ∃ up : Nat, (if ((sz : Nat) : Int) > 12 then ((sz : Nat) : Int) else 12) = (up : Nat) ∧ sz ≤ up ∧ up ≤ 40 := ⟨max 12 sz, by split <;> omega, by omega, by omega⟩
      refine ⟨_, rfl, _, rfl, _, _, rfl, _, rfl, (by rw [hup]; exact RgOk.of_le (by omega) (by omega) (by omega) (by omega)), fun p7 H7 n7 e7 h7 => ?_⟩
      have h7 : H7 p7 = some (.lst ((upN up).map V.int)) := h7.trans (by rw [hup, rgV_upN])
      refine ⟨_, rfl, j, p7, _, _, upN up, rfl, b6.ex e7, by decide, sqI h7, by rw [upN_len]; omega, by omega, by omega, fun P H8 ts ls nP x8 nPj j8 hP pm tl => ?_⟩
      have tl : ts.length = sz := by rw [upN_len] at tl; omega
      have tnd : ts.Nodup := (List.nodup_append.mp (pm.nodup_iff.mpr (upN_nodup up))).1
      refine st_eq (σ' := [some (.ref sa), some (.int (0 + (i : Int))), some (.ref j), some (.int (sz : Nat)), some (.ref P), v5, v6, v7, v8, v9, v10, v11, v12, v13, v14]) (P := fun σ => tSeq _ _ _ σ H8) rfl ?_
      have b8 : Jug H8 j 1000 := j8.mono (by omega)
      -- marks
      refine ⟨_, rfl, _, rfl, j, P, _, ts, rfl, b8, by decide, nPj, hP, tnd, by omega, fun M H9 ms n9 x9 Mj j9 hM pms sms => ?_⟩
      have hP9 := x9 _ _ nPj hP
      have msl := nodup_len (pw_nodup pms) sms
      have b9 : Jug H9 j 2000 := j9.mono (by omega)
      refine st_eq (σ' := [some (.ref sa), some (.int (0 + (i : Int))), some (.ref j), some (.int (sz : Nat)), some (.ref P), some (.ref M), v6, v7, v8, v9, v10, v11, v12, v13, v14]) (P := fun σ => tSeq _ _ _ σ H9) rfl ?_
      -- found
      refine ⟨_, rfl, _, rfl, P, M, ts, ms, rfl, sqI hP9, sqI hM, by omega, fun F H10 n10 e10 h10 => ?_⟩
      have bl := borders_len ts ms
      have pwb := borders_asc ts ms
      obtain ⟨ps, hps⟩ : ∃ ps, ps = bordersL ts ms := ⟨_, rfl⟩
      rw [← hps] at h10 bl pwb
      have Fj := b9.ne n10
      -- least, number
      refine ⟨_, rfl, F, ps, rfl, sqI h10, pwb, by omega, fun q11 H11 e11 hq11 => ?_⟩
      refine ⟨_, _, rfl, hq11, rfl, _, _, rfl, _, _, rfl, rfl, ?_⟩
      have e911 := e10.trans e11
      have hb := blocks_le ps
      have ecn : countL ts ms = cntP ps := by rw [hps]; rfl
      have eco : costL ts ms = costP ps := by rw [hps]; rfl
      have cpos : 1 ≤ cntP ps := cntB_pos hb
      have cle : cntP ps ≤ 2 ^ 100 := count_bd ps (by omega)
      have shN : Shw (.int (cntP ps)) 60 sizeLine := by
        refine (Shw.int (log_of ?_)).mono (by decide) (by decide)
        have : (cntP ps).natAbs ≤ 2 ^ 100 := by omega
        exact Nat.lt_of_le_of_lt this (Nat.pow_lt_pow_right (by decide) (by decide))
      refine st_eq (σ' := [some (.ref sa), some (.int (0 + (i : Int))), some (.ref j), some (.int (sz : Nat)), some (.ref P), some (.ref M), some (.ref F), some (.int (costP ps)), some (.int (cntP ps)), v9, v10, v11, v12, v13, v14]) (P := fun σ => tSeq _ _ _ σ H11) rfl ?_
      have hP11 := e911 _ _ hP9
      have hM11 := e911 _ _ hM
      refine ⟨_, rfl, _, rfl, P, M, ts, ms, rfl, sqI hP11, sqI hM11, tnd, by omega, pms, by omega, sms, fun H12 e12 => ?_⟩
      rw [ecn]
      refine ⟨_, .int (cntP ps), rfl, .int _, shN, ?_⟩
      refine ⟨_, rfl, _, .int (cntP ps), rfl, .int _, shN, ?_⟩
      refine ⟨rfl, _, rfl, ifF same ?_⟩
      refine ⟨_, rfl, _, rfl, P, M, ts, ms, rfl, sqI (e12 _ _ hP11), sqI (e12 _ _ hM11), tnd, by omega, pms, by omega, sms, fun H13 e13 => ?_⟩
      rw [ecn]
      refine ⟨_, rfl, rfl, _, rfl, ifF same ?_⟩
      have e913 := e911.trans (e12.trans e13)
      have h10_13 := (e11.trans (e12.trans e13)) _ _ h10
      -- covers
      refine ⟨fun v H' => Ex H13 H' ∧ ∃ (C : Addr) (us : List V) (Ts : List (List (List Int))), v = .ref C ∧ H13 C = none ∧ H' C = some (.lst us) ∧ AllR (CvR K H') us Ts ∧ ((sz < 11 ∧ Ts = bestC ps) ∨ (¬ sz < 11 ∧ Ts = [])), ?_, ?_⟩
      · refine ⟨_, rfl, _, _, rfl, rfl, _, rfl, ?_⟩
        refine ifB (fun cc => ?_) (fun cc => ?_)
        · have cc : ((sz : Nat) : Int) < 11 := of_decide_eq_true cc
          exact ⟨_, rfl, F, ps, rfl, sqI h10_13, pwb, by omega, by decide, fun C H14 us n14 e14 h14 a14 => ⟨e14, C, us, _, rfl, n14, h14, a14, .inl ⟨by omega, rfl⟩⟩⟩
        · have cc : ¬ ((sz : Nat) : Int) < 11 := of_decide_eq_false cc
          exact ⟨(by show 0 ≤ sizeLine; decide), fun C H14 n14 e14 h14 => ⟨e14, C, [], [], rfl, n14, h14, AllR.nil, .inr ⟨by omega, rfl⟩⟩⟩
      rintro vC H14 ⟨e14, C, uC, Ts, rfl, nC, hC, aC, cas⟩
      have e914 := e913.trans e14
      have uCl := aC.1
      refine st_eq (σ' := [some (.ref sa), some (.int (0 + (i : Int))), some (.ref j), some (.int (sz : Nat)), some (.ref P), some (.ref M), some (.ref F), some (.int (costP ps)), some (.int (cntP ps)), some (.ref C), v10, v11, v12, v13, v14]) (P := fun σ => tSeq _ _ _ σ H14) rfl ?_
      refine ⟨fun b H'' => H'' = H14 ∧ b = false, ?_, ?_⟩
      · refine ⟨_, rfl, _, _, rfl, rfl, _, rfl, ?_⟩
        refine ifB (fun cc => ?_) (fun cc => ⟨rfl, ?_⟩)
        · have cc : ((sz : Nat) : Int) < 11 := of_decide_eq_true cc
          refine ⟨_, rfl, _, _, rfl, .inl (sqI hC), _, rfl, rfl, _, rfl, rfl, ?_⟩
          rcases cas with ⟨_, rfl⟩ | ⟨z, _⟩
          · refine nef ?_
            rw [uCl]
            unfold bestC
            rw [List.length_map, upN_len]
            show V.int (((cntP ps).toNat : Nat) : Int) = _
            rw [show (((cntP ps).toNat : Nat) : Int) = cntP ps by omega]
          · exact absurd cc (by omega)
        · rfl
      rintro b0 H'' ⟨rfl, rfl⟩
      refine ifF rfl ?_
      have hP14 := e914 _ _ hP9
      have hM14 := e914 _ _ hM
      have hF14 := e14 _ _ h10_13
      have Cj : C ≠ j := (b9.ex e913).ne nC
      have b14 : Jug H'' j 2000 := b9.ex e914
      obtain ⟨mm, hmm, mm4, mmn⟩ : ∃ mm : Nat, (if cntP ps < 4 then cntP ps else 4) = (mm : Int) ∧ mm ≤ 4 ∧ (mm : Int) ≤ cntP ps := ⟨(min 4 (cntP ps)).toNat, by split <;> omega, by omega, by omega⟩
      have nj0 : NTup H'' j := by
        obtain ⟨x, y, z, hj', _⟩ := b14
        exact NTup.lst hj'
      have x114 : Exj j H1 H'' := e2.trans (e3.trans ((Exj.of (e4.trans e5)).trans (e6.trans ((Exj.of e7).trans (x8.trans (x9.trans (Exj.of e914)))))))
      refine ⟨_, rfl, _, _, rfl, ?_⟩
      rw [hmm]
      refine ⟨_, rfl, (by omega), (by omega), for_range (lo := 0) (n := ((mm : Int)).toNat) (fun i2 σ H' => ∃ w10 w11 w12 w13 w14, σ = [some (.ref sa), some (.int (0 + (i : Int))), some (.ref j), some (.int (sz : Nat)), some (.ref P), some (.ref M), some (.ref F), some (.int (costP ps)), some (.int (cntP ps)), some (.ref C), w10, w11, w12, w13, w14] ∧ Exj j H'' H' ∧ Jug H' j (2000 + 1000 * i2)) ⟨_, _, _, _, _, rfl, Exj.refl _ _, b14.mono (by omega)⟩ ?_ ?_⟩
      · rintro i2 σ H15 hi2 ⟨w10, w11, w12, w13, w14, rfl, x15, j15⟩
        have i24 : i2 < 4 := by omega
        refine ⟨_, rfl, _, _, rfl, rfl, _, rfl, _, rfl, j, _, _, rfl, j15, by omega, by omega, Int.lt_of_le_of_lt cle (by decide), fun a1 H16 a1a a1b x16 j16 => ?_⟩
        refine ⟨_, rfl, _, rfl, j, _, _, rfl, j16, by omega, by omega, Int.lt_of_le_of_lt cle (by decide), fun a2 H17 a2a a2b x17 j17 => ?_⟩
        refine ⟨(by show 4 ≤ sizeLine; decide), fun p18 H18 n18 e18 h18 => ?_⟩
        obtain ⟨ix, ix0, ix1, hat⟩ : ∃ ix : Int, 0 ≤ ix ∧ ix < cntP ps ∧ atI [V.int 0, .int (cntP ps - 1), .int a1, .int a2] (0 + (i2 : Int)) = some (.int ix) := by
          rcases (show i2 = 0 ∨ i2 = 1 ∨ i2 = 2 ∨ i2 = 3 by omega) with z | z | z | z
          · exact ⟨0, by omega, by omega, by rw [z]; rfl⟩
          · exact ⟨cntP ps - 1, by omega, by omega, by rw [z]; rfl⟩
          · exact ⟨a1, by omega, by omega, by rw [z]; rfl⟩
          · exact ⟨a2, by omega, by omega, by rw [z]; rfl⟩
        refine ⟨_, rfl, _, _, _, _, rfl, rfl, sqI h18, hat, ?_⟩
        have x18 : Exj j H'' H18 := x15.trans (x16.trans (x17.trans (Exj.of e18)))
        have hP18 := x18 _ _ nPj hP14
        have hM18 := x18 _ _ Mj hM14
        have j18 := j17.ex e18
        refine st_eq (σ' := [some (.ref sa), some (.int (0 + (i : Int))), some (.ref j), some (.int (sz : Nat)), some (.ref P), some (.ref M), some (.ref F), some (.int (costP ps)), some (.int (cntP ps)), some (.ref C), some (.int (0 + (i2 : Int))), some (.int ix), w12, w13, w14]) (P := fun σ => tSeq _ _ _ σ H18) rfl ?_
        -- cover
        have ix1' : ix < cntB (blocksL (bordersL ts ms)) := by rw [← hps]; exact ix1
        refine ⟨_, rfl, _, rfl, _, rfl, P, M, ts, ms, ix, rfl, sqI hP18, sqI hM18, tnd, by omega, pms, by omega, sms, ix0, ix1', fun V0 H19 u19 n19 e19 h19 a19 => ?_⟩
        obtain ⟨f1, f2, f3, f4, f5⟩ := cover_mv ts ms ix0 ix1'
        have hlf := cost_half ts ms
        have ftk := cover_tokI (bs := blocksL (bordersL ts ms)) (ix := ix)
        have fev := singles_even ts ms ix
        obtain ⟨cv, hcv⟩ : ∃ cv, cv = coverL (blocksL (bordersL ts ms)) ix := ⟨_, rfl⟩
        rw [← hcv] at a19 f1 f2 f3 f4 f5 ftk fev
        have ul19 := a19.1
        have cvl : cv.length ≤ 21 := by omega
        have x19 : Exj j H'' H19 := x18.trans (Exj.of e19)
        have V0j := j18.ne n19
        refine st_eq (σ' := [some (.ref sa), some (.int (0 + (i : Int))), some (.ref j), some (.int (sz : Nat)), some (.ref P), some (.ref M), some (.ref F), some (.int (costP ps)), some (.int (cntP ps)), some (.ref C), some (.int (0 + (i2 : Int))), some (.int ix), some (.ref V0), w13, w14]) (P := fun σ => tSeq _ _ _ σ H19) rfl ?_
        have hC19 := x19 _ _ Cj hC
        have aC19 : AllR (CvR K H19) uC Ts := ⟨aC.1, fun i3 v T h1 h2 => by
          obtain ⟨q, us, e, hq, au⟩ := aC.2 i3 v T h1 h2
          have qj : q ≠ j := by
            rintro rfl
            obtain ⟨x, y, z, hj', _⟩ := b14
            rw [hq] at hj'
            cases hj'
            have := au.1
            cases T with
            | nil => cases this
            | cons t T =>
              obtain ⟨q', e', _⟩ := au.2 0 _ _ rfl rfl
              cases e'
          exact ⟨q, us, e, x19 _ _ qj hq, au.mono fun v t ⟨q, h1, h2⟩ => ⟨q, h1, sqT_keep x19 nj0 h2⟩⟩⟩
        -- the first test
        refine ⟨fun b H'' => Ex H19 H'' ∧ b = false, ?_, ?_⟩
        · have second : (!decide (V.int ((u19.length : Nat) : Int) = V.int (costP ps))) = false := nef (by rw [ul19, ← eco, ← f2])
          refine ⟨_, rfl, (by show 0 ≤ sizeLine; decide), fun p20 H20 n20 e20 h20 => ?_⟩
          refine neE (goodL goodCov) (by decide) (x := Ts) (y := []) (cvs_dp (e20 _ _ hC19) (aC19.mono fun v T r => r.ex e20)) (nilD h20) ⟨_, rfl, ?_⟩
          refine ifB (fun cc => ?_) (fun cc => ?_)
          · rcases cas with ⟨_, rfl⟩ | ⟨_, rfl⟩
            · obtain ⟨vq, hvq, rq⟩ := aC19.row (best_at ix0 ix1)
              have atq : atI uC ix = some vq := at_of (j := ix.toNat) (by omega) hvq
              have ecv : coverL (blocksL ps) ix = cv := by rw [hcv, hps]
              rw [ecv] at rq
              refine ⟨_, rfl, _, rfl, _, rfl, _, _, _, _, rfl, rfl, sqI (e20 _ _ hC19), atq, neE goodCov (by decide) (x := cv) (y := cv) (tks_dp (e20 _ _ h19) (a19.mono fun v t r => r.ex e20)) (rq.ex e20).dp ⟨_, rfl, ifF same ?_⟩⟩
              exact ⟨_, rfl, _, _, rfl, .inl (sqI (e20 _ _ h19)), _, rfl, rfl, _, rfl, e20, second⟩
            · simp at cc
          · exact ⟨_, rfl, _, _, rfl, .inl (sqI (e20 _ _ h19)), _, rfl, rfl, _, rfl, e20, second⟩
        rintro b0 H20 ⟨e20, rfl⟩
        refine ifF rfl ?_
        have x20 : Exj j H'' H20 := x19.trans (Exj.of e20)
        have h19_20 := e20 _ _ h19
        have a20 : AllR (TkR K H20) u19 cv := a19.mono fun v t r => r.ex e20
        have hF20 := x20 _ _ Fj hF14
        -- told
        refine ⟨(by show 0 ≤ sizeLine; decide), fun W0 H21 n21 e21 h21 => ?_⟩
        refine ⟨_, rfl, V0, rfl, ⟨_, sqI (e21 _ _ h19_20)⟩, for_list (K := K) (a := V0) (xs := u19) (fun i3 σ H' => ∃ (W : Addr) (w14 : Option V), σ = [some (.ref sa), some (.int (0 + (i : Int))), some (.ref j), some (.int (sz : Nat)), some (.ref P), some (.ref M), some (.ref F), some (.int (costP ps)), some (.int (cntP ps)), some (.ref C), some (.int (0 + (i2 : Int))), some (.int ix), some (.ref V0), some (.ref W), w14] ∧ Ex H20 H' ∧ H' W = some (.lst ((cv.take i3).flatten.map V.int))) ⟨W0, _, rfl, e21, h21⟩ (fun i3 σ H' _ ⟨_, _, _, e, _⟩ => sqI (e _ _ h19_20)) ?_ ?_⟩
        · rintro i3 v σ H22 hv ⟨W, w14, rfl, e22, hW⟩
          obtain ⟨tk, htk, q, rfl, hq⟩ := a20.get hv
          have tl2 : tk.length ≤ 2 := by
            rcases ftk tk (List.mem_of_getElem? htk) with ⟨b, rfl⟩ | ⟨b, rfl⟩
            · show 1 ≤ 2; omega
            · show 2 ≤ 2; omega
          have fl2 : (cv.take i3).flatten.length ≤ 42 := by
            have := tok_half (T := cv.take i3) fun t ht => ftk t (List.mem_of_mem_take ht)
            rw [List.length_take] at this
            omega
          show _
          refine ⟨_, rfl, _, rfl, _, _, rfl, .inr (Evl.ex_t e22 hq), fun p23 H23 n23 e23 h23 => ?_⟩
          refine ⟨_, _, _, _, rfl, rfl, e23 _ _ hW, h23, Nat.le_trans (show _ ≤ 50 by rw [List.length_map, List.length_map]; omega) (by decide), fun p24 H24 n24 e24 h24 => ?_⟩
          refine ⟨p24, _, rfl, e22.trans (e23.trans e24), ?_⟩
          rw [h24, take_snoc htk, List.flatten_append, List.map_append]
          have : [tk].flatten = tk := by simp
          rw [this]
        rintro σ H22 ⟨W, w14', rfl, e22, hW⟩
        rw [ul19, List.take_length] at hW
        refine ⟨_, rfl, _, rfl, neI_ (xs := cv.flatten) (ys := ps) (sqI hW) (sqI (e22 _ _ hF20)) ⟨_, rfl, ifF (by rw [f1, hps]; exact same) ?_⟩⟩
        have x22 : Exj j H'' H22 := x20.trans (Exj.of e22)
        have hP22 := x22 _ _ nPj hP14
        have hM22 := x22 _ _ Mj hM14
        have h19_22 := e22 _ _ h19_20
        have a22 : AllR (TkR K H22) u19 cv := a20.mono fun v t r => r.ex e22
        -- the second test
        refine ⟨fun b H'' => Ex H22 H'' ∧ b = false, ?_, ?_⟩
        · refine ⟨_, rfl, _, _, rfl, rfl, _, rfl, _, _, rfl, rfl, _, rfl, ?_⟩
          refine ifB (fun cc => ?_) (fun cc => ⟨Evl.Ex.refl _, rfl⟩)
          have cc : ix + 1 < cntP ps := of_decide_eq_true cc
          have ix2' : ix + 1 < cntB (blocksL (bordersL ts ms)) := by rw [← hps]; exact cc
          refine ⟨_, rfl, _, rfl, _, rfl, _, rfl, _, _, rfl, rfl, P, M, ts, ms, ix + 1, rfl, sqI hP22, sqI hM22, tnd, by omega, pms, by omega, sms, by omega, ix2', fun V1 H23 u23 n23 e23 h23 a23 => ?_⟩
          refine ⟨_, _, tks_dp (e23 _ _ h19_22) (a22.mono fun v t r => r.ex e23), tks_dp h23 a23, alike_cov _ _, (fun z => by cases z), Nat.le_trans (goodCov.dep _) (by decide), _, rfl, e23, ?_⟩
          rw [lt_cov, hcv, decide_eq_true ((lt_ix (blocks_le _) ix0 ix1' (by omega) ix2').mpr (by omega))]
          rfl
        rintro b0 H23 ⟨e23, rfl⟩
        refine ifF rfl ?_
        have x23 : Exj j H'' H23 := x22.trans (Exj.of e23)
        have j23 : Jug H23 j (2000 + 1000 * i2 + 2) := ((((j18.ex e19).ex e20).ex e22).ex e23).mono (by omega)
        have hP23 := x23 _ _ nPj hP14
        have hM23 := x23 _ _ Mj hM14
        have h19_23 := e23 _ _ h19_22
        have a23 : AllR (TkR K H23) u19 cv := a22.mono fun v t r => r.ex e23
        -- cover_right
        refine ⟨_, rfl, _, rfl, _, rfl, _, rfl, _, rfl, j, P, M, V0, _, ts, ms, ix, u19, rfl, j23, by omega, nPj, Mj, V0j, hP23, hM23, h19_23, by rw [← hcv]; exact a23, tnd, by omega, pms, sms, ix0, ix1', fun H24 x24 j24 => ?_⟩
        refine ⟨_, rfl, ifF rfl ?_⟩
        have x024 : Exj j H'' H24 := x23.trans x24
        have hP24 := x024 _ _ nPj hP14
        have hM24 := x024 _ _ Mj hM14
        have h19_24 := x24 _ _ V0j h19_23
        have nj23 : NTup H23 j := by
          obtain ⟨x, y, z, hj', _⟩ := j23
          exact NTup.lst hj'
        have a24 : AllR (TkR K H24) u19 cv := a23.mono fun v t ⟨q, h1, h2⟩ => ⟨q, h1, sqT_keep x24 nj23 h2⟩
        -- the third test
        refine ⟨fun b H'' => Ex H24 H'' ∧ b = false, ?_, ?_⟩
        · refine ⟨_, rfl, rfl, _, rfl, ?_⟩
          rw [decInt]
          refine ifB (fun cc => ?_) (fun cc => ⟨Evl.Ex.refl _, rfl⟩)
          have cc : ix = 0 := of_decide_eq_true cc
          refine ⟨_, rfl, _, rfl, P, M, ts, ms, rfl, sqI hP24, sqI hM24, tnd, by omega, pms, by omega, sms, fun q25 H25 u25 n25 e25 h25 a25 => ?_⟩
          refine ⟨_, rfl, _, rfl, _, rfl, P, M, V0, ts, ms, u19, cv, rfl, sqI (e25 _ _ hP24), sqI (e25 _ _ hM24), sqI (e25 _ _ h19_24), tnd, by omega, pms, by omega, sms, a24.mono fun v t r => r.ex e25, f2, ftk, f1, by omega, fev, fun q26 H26 u26 n26 e26 h26 a26 => ?_⟩
          have eb : bestL ts ms = clicksL cv := by
            unfold bestL
            rw [hcv, cc]
          rw [eb, f3] at a25
          rw [f3] at a26
          exact neE (goodL goodM) (by decide) (x := movesT cv) (y := movesT cv) (mvs_dp (sqI (e26 _ _ h25)) ((cl_mv a25).mono fun v m r => r.ex e26)) (mvs_dp (sqI h26) (cl_mv a26)) ⟨_, rfl, e25.trans e26, same⟩
        rintro b0 H25 ⟨e25, rfl⟩
        refine ifF rfl ?_
        exact ⟨_, _, _, _, _, rfl, x024.trans (Exj.of e25), (j24.ex e25).mono (by omega)⟩
      · rintro σ H15 ⟨w10, w11, w12, w13, w14, rfl, x15, j15⟩
        have hP15 := x15 _ _ nPj hP14
        refine ⟨_, rfl, _, rfl, _, rfl, (by show 3 ≤ sizeLine; decide), fun p16 H16 n16 e16 h16 => ?_⟩
        have p16j := j15.ne n16
        refine ⟨_, rfl, j, _, _, rfl, j15.ex e16, by omega, by decide, by decide, fun d17 H17 d17a d17b x17 j17 => ?_⟩
        obtain ⟨many, hmany, at17⟩ : ∃ many : Int, (0 ≤ many ∧ many ≤ 60) ∧ atI [V.int 10, .int 10, .int 60] d17 = some (.int many) := by
          rcases (show d17 = 0 ∨ d17 = 1 ∨ d17 = 2 by omega) with z | z | z
          · exact ⟨10, by omega, by rw [z]; rfl⟩
          · exact ⟨10, by omega, by rw [z]; rfl⟩
          · exact ⟨60, by omega, by rw [z]; rfl⟩
        refine ⟨_, _, _, _, rfl, rfl, sqI (x17 _ _ p16j h16), at17, j, _, _, _, rfl, j17, by omega, by omega, by omega, by omega, by omega, fun pC H18 xs cs n18 x18 pCj j18 h18 c18 ok18 l18 => ?_⟩
        have szT : ((sz : Nat) : Int).toNat = ts.length := by omega
        rw [szT] at ok18
        obtain ⟨mv, rfl, okm⟩ := mvs_of ok18
        rw [List.length_map] at l18
        have x1518 : Exj j H15 H18 := (Exj.of e16).trans (x17.trans x18)
        have hP18 := x1518 _ _ nPj hP15
        refine ⟨P, pC, ts, xs, mv, rfl, sqI hP18, sqI h18, tnd, by omega, cl_mv ⟨c18.1, c18.cls.2⟩, okm, l18, fun H19 e19 => ?_⟩
        refine ⟨_, rfl, ifF rfl ?_⟩
        have xall : Exj j H1 H19 := x114.trans (x15.trans (x1518.trans (Exj.of e19)))
        have all : Ex H0 H19 := fun b o hb => xall b o (fun z => by rw [z, nj] at hb; cases hb) (e1 b o hb)
        exact ⟨_, _, _, _, _, _, _, _, _, _, _, _, _, _, rfl, Evl.ex_l all hs0⟩
    · rintro σ H' ⟨v1, v2, v3, v4, v5, v6, v7, v8, v9, v10, v11, v12, v13, v14, rfl, hs'⟩
      exact k H'
end
end K31
namespace K31
open PySem L2 My
theorem all_mk {K : PySem.W.Frag} {h : Heap} {mg : Str → Option Value} (X : K.In h) (G : h.Ns mainGlobals mg)
    {f0 : Addr} {od0 an0 : Option Addr} {sl0 : Array (Option Value)} {oc0 kV0 dc0 pm0 cd0 ct0 : Value}
    (a0 : PySem.W.nsIn K mainGlobals "check_there" = some (some (.ref f0))) (l0 : K.lookup f0 = some ⟨oc0, od0, .func (PySem.W.fnOf "check_there" "check_there" (defArgs s_check_there) (defBody s_check_there) (defScope s_check_there) .none kV0 dc0 pm0 an0 cd0 ct0), sl0⟩) (c0 : PySem.W.codeIn K cd0 "check_there" = true) (k0 : PySem.W.keepIn K (.ref f0) = true)
    {f1 : Addr} {od1 an1 : Option Addr} {sl1 : Array (Option Value)} {oc1 kV1 dc1 pm1 cd1 ct1 : Value}
    (a1 : PySem.W.nsIn K mainGlobals "are_marks" = some (some (.ref f1))) (l1 : K.lookup f1 = some ⟨oc1, od1, .func (PySem.W.fnOf "are_marks" "are_marks" (defArgs s_are_marks) (defBody s_are_marks) (defScope s_are_marks) .none kV1 dc1 pm1 an1 cd1 ct1), sl1⟩) (c1 : PySem.W.codeIn K cd1 "are_marks" = true) (k1 : PySem.W.keepIn K (.ref f1) = true)
    {f2 : Addr} {od2 an2 : Option Addr} {sl2 : Array (Option Value)} {oc2 kV2 dc2 pm2 cd2 ct2 : Value}
    (a2 : PySem.W.nsIn K mainGlobals "check_marks_there" = some (some (.ref f2))) (l2 : K.lookup f2 = some ⟨oc2, od2, .func (PySem.W.fnOf "check_marks_there" "check_marks_there" (defArgs s_check_marks_there) (defBody s_check_marks_there) (defScope s_check_marks_there) .none kV2 dc2 pm2 an2 cd2 ct2), sl2⟩) (c2 : PySem.W.codeIn K cd2 "check_marks_there" = true) (k2 : PySem.W.keepIn K (.ref f2) = true)
    {f3 : Addr} {od3 an3 : Option Addr} {sl3 : Array (Option Value)} {oc3 kV3 dc3 pm3 cd3 ct3 : Value}
    (a3 : PySem.W.nsIn K mainGlobals "check_clicks" = some (some (.ref f3))) (l3 : K.lookup f3 = some ⟨oc3, od3, .func (PySem.W.fnOf "check_clicks" "check_clicks" (defArgs s_check_clicks) (defBody s_check_clicks) (defScope s_check_clicks) .none kV3 dc3 pm3 an3 cd3 ct3), sl3⟩) (c3 : PySem.W.codeIn K cd3 "check_clicks" = true) (k3 : PySem.W.keepIn K (.ref f3) = true)
    {f4 : Addr} {od4 an4 : Option Addr} {sl4 : Array (Option Value)} {oc4 kV4 dc4 pm4 cd4 ct4 : Value}
    (a4 : PySem.W.nsIn K mainGlobals "places_of" = some (some (.ref f4))) (l4 : K.lookup f4 = some ⟨oc4, od4, .func (PySem.W.fnOf "places_of" "places_of" (defArgs s_places_of) (defBody s_places_of) (defScope s_places_of) .none kV4 dc4 pm4 an4 cd4 ct4), sl4⟩) (c4 : PySem.W.codeIn K cd4 "places_of" = true) (k4 : PySem.W.keepIn K (.ref f4) = true)
    {f5 : Addr} {od5 an5 : Option Addr} {sl5 : Array (Option Value)} {oc5 kV5 dc5 pm5 cd5 ct5 : Value}
    (a5 : PySem.W.nsIn K mainGlobals "marked_in" = some (some (.ref f5))) (l5 : K.lookup f5 = some ⟨oc5, od5, .func (PySem.W.fnOf "marked_in" "marked_in" (defArgs s_marked_in) (defBody s_marked_in) (defScope s_marked_in) .none kV5 dc5 pm5 an5 cd5 ct5), sl5⟩) (c5 : PySem.W.codeIn K cd5 "marked_in" = true) (k5 : PySem.W.keepIn K (.ref f5) = true)
    {f6 : Addr} {od6 an6 : Option Addr} {sl6 : Array (Option Value)} {oc6 kV6 dc6 pm6 cd6 ct6 : Value}
    (a6 : PySem.W.nsIn K mainGlobals "borders_in" = some (some (.ref f6))) (l6 : K.lookup f6 = some ⟨oc6, od6, .func (PySem.W.fnOf "borders_in" "borders_in" (defArgs s_borders_in) (defBody s_borders_in) (defScope s_borders_in) .none kV6 dc6 pm6 an6 cd6 ct6), sl6⟩) (c6 : PySem.W.codeIn K cd6 "borders_in" = true) (k6 : PySem.W.keepIn K (.ref f6) = true)
    {f7 : Addr} {od7 an7 : Option Addr} {sl7 : Array (Option Value)} {oc7 kV7 dc7 pm7 cd7 ct7 : Value}
    (a7 : PySem.W.nsIn K mainGlobals "blocks_of" = some (some (.ref f7))) (l7 : K.lookup f7 = some ⟨oc7, od7, .func (PySem.W.fnOf "blocks_of" "blocks_of" (defArgs s_blocks_of) (defBody s_blocks_of) (defScope s_blocks_of) .none kV7 dc7 pm7 an7 cd7 ct7), sl7⟩) (c7 : PySem.W.codeIn K cd7 "blocks_of" = true) (k7 : PySem.W.keepIn K (.ref f7) = true)
    {f8 : Addr} {od8 an8 : Option Addr} {sl8 : Array (Option Value)} {oc8 kV8 dc8 pm8 cd8 ct8 : Value}
    (a8 : PySem.W.nsIn K mainGlobals "cost_in" = some (some (.ref f8))) (l8 : K.lookup f8 = some ⟨oc8, od8, .func (PySem.W.fnOf "cost_in" "cost_in" (defArgs s_cost_in) (defBody s_cost_in) (defScope s_cost_in) .none kV8 dc8 pm8 an8 cd8 ct8), sl8⟩) (c8 : PySem.W.codeIn K cd8 "cost_in" = true) (k8 : PySem.W.keepIn K (.ref f8) = true)
    {f9 : Addr} {od9 an9 : Option Addr} {sl9 : Array (Option Value)} {oc9 kV9 dc9 pm9 cd9 ct9 : Value}
    (a9 : PySem.W.nsIn K mainGlobals "check_case" = some (some (.ref f9))) (l9 : K.lookup f9 = some ⟨oc9, od9, .func (PySem.W.fnOf "check_case" "check_case" (defArgs s_check_case) (defBody s_check_case) (defScope s_check_case) .none kV9 dc9 pm9 an9 cd9 ct9), sl9⟩) (c9 : PySem.W.codeIn K cd9 "check_case" = true) (k9 : PySem.W.keepIn K (.ref f9) = true)
    {f10 : Addr} {od10 an10 : Option Addr} {sl10 : Array (Option Value)} {oc10 kV10 dc10 pm10 cd10 ct10 : Value}
    (a10 : PySem.W.nsIn K mainGlobals "numbers_of_covers" = some (some (.ref f10))) (l10 : K.lookup f10 = some ⟨oc10, od10, .func (PySem.W.fnOf "numbers_of_covers" "numbers_of_covers" (defArgs s_numbers_of_covers) (defBody s_numbers_of_covers) (defScope s_numbers_of_covers) .none kV10 dc10 pm10 an10 cd10 ct10), sl10⟩) (c10 : PySem.W.codeIn K cd10 "numbers_of_covers" = true) (k10 : PySem.W.keepIn K (.ref f10) = true)
    {f11 : Addr} {od11 an11 : Option Addr} {sl11 : Array (Option Value)} {oc11 kV11 dc11 pm11 cd11 ct11 : Value}
    (a11 : PySem.W.nsIn K mainGlobals "count_covers" = some (some (.ref f11))) (l11 : K.lookup f11 = some ⟨oc11, od11, .func (PySem.W.fnOf "count_covers" "count_covers" (defArgs s_count_covers) (defBody s_count_covers) (defScope s_count_covers) .none kV11 dc11 pm11 an11 cd11 ct11), sl11⟩) (c11 : PySem.W.codeIn K cd11 "count_covers" = true) (k11 : PySem.W.keepIn K (.ref f11) = true)
    {f12 : Addr} {od12 an12 : Option Addr} {sl12 : Array (Option Value)} {oc12 kV12 dc12 pm12 cd12 ct12 : Value}
    (a12 : PySem.W.nsIn K mainGlobals "block_cover" = some (some (.ref f12))) (l12 : K.lookup f12 = some ⟨oc12, od12, .func (PySem.W.fnOf "block_cover" "block_cover" (defArgs s_block_cover) (defBody s_block_cover) (defScope s_block_cover) .none kV12 dc12 pm12 an12 cd12 ct12), sl12⟩) (c12 : PySem.W.codeIn K cd12 "block_cover" = true) (k12 : PySem.W.keepIn K (.ref f12) = true)
    {f13 : Addr} {od13 an13 : Option Addr} {sl13 : Array (Option Value)} {oc13 kV13 dc13 pm13 cd13 ct13 : Value}
    (a13 : PySem.W.nsIn K mainGlobals "cover_in" = some (some (.ref f13))) (l13 : K.lookup f13 = some ⟨oc13, od13, .func (PySem.W.fnOf "cover_in" "cover_in" (defArgs s_cover_in) (defBody s_cover_in) (defScope s_cover_in) .none kV13 dc13 pm13 an13 cd13 ct13), sl13⟩) (c13 : PySem.W.codeIn K cd13 "cover_in" = true) (k13 : PySem.W.keepIn K (.ref f13) = true)
    {f14 : Addr} {od14 an14 : Option Addr} {sl14 : Array (Option Value)} {oc14 kV14 dc14 pm14 cd14 ct14 : Value}
    (a14 : PySem.W.nsIn K mainGlobals "cover_at" = some (some (.ref f14))) (l14 : K.lookup f14 = some ⟨oc14, od14, .func (PySem.W.fnOf "cover_at" "cover_at" (defArgs s_cover_at) (defBody s_cover_at) (defScope s_cover_at) .none kV14 dc14 pm14 an14 cd14 ct14), sl14⟩) (c14 : PySem.W.codeIn K cd14 "cover_at" = true) (k14 : PySem.W.keepIn K (.ref f14) = true)
    {f15 : Addr} {od15 an15 : Option Addr} {sl15 : Array (Option Value)} {oc15 kV15 dc15 pm15 cd15 ct15 : Value}
    (a15 : PySem.W.nsIn K mainGlobals "clicks_in" = some (some (.ref f15))) (l15 : K.lookup f15 = some ⟨oc15, od15, .func (PySem.W.fnOf "clicks_in" "clicks_in" (defArgs s_clicks_in) (defBody s_clicks_in) (defScope s_clicks_in) .none kV15 dc15 pm15 an15 cd15 ct15), sl15⟩) (c15 : PySem.W.codeIn K cd15 "clicks_in" = true) (k15 : PySem.W.keepIn K (.ref f15) = true)
    {f16 : Addr} {od16 an16 : Option Addr} {sl16 : Array (Option Value)} {oc16 kV16 dc16 pm16 cd16 ct16 : Value}
    (a16 : PySem.W.nsIn K mainGlobals "is_token" = some (some (.ref f16))) (l16 : K.lookup f16 = some ⟨oc16, od16, .func (PySem.W.fnOf "is_token" "is_token" (defArgs s_is_token) (defBody s_is_token) (defScope s_is_token) .none kV16 dc16 pm16 an16 cd16 ct16), sl16⟩) (c16 : PySem.W.codeIn K cd16 "is_token" = true) (k16 : PySem.W.keepIn K (.ref f16) = true)
    {f17 : Addr} {od17 an17 : Option Addr} {sl17 : Array (Option Value)} {oc17 kV17 dc17 pm17 cd17 ct17 : Value}
    (a17 : PySem.W.nsIn K mainGlobals "is_best_cover" = some (some (.ref f17))) (l17 : K.lookup f17 = some ⟨oc17, od17, .func (PySem.W.fnOf "is_best_cover" "is_best_cover" (defArgs s_is_best_cover) (defBody s_is_best_cover) (defScope s_is_best_cover) .none kV17 dc17 pm17 an17 cd17 ct17), sl17⟩) (c17 : PySem.W.codeIn K cd17 "is_best_cover" = true) (k17 : PySem.W.keepIn K (.ref f17) = true)
    {f18 : Addr} {od18 an18 : Option Addr} {sl18 : Array (Option Value)} {oc18 kV18 dc18 pm18 cd18 ct18 : Value}
    (a18 : PySem.W.nsIn K mainGlobals "clicks_of_cover" = some (some (.ref f18))) (l18 : K.lookup f18 = some ⟨oc18, od18, .func (PySem.W.fnOf "clicks_of_cover" "clicks_of_cover" (defArgs s_clicks_of_cover) (defBody s_clicks_of_cover) (defScope s_clicks_of_cover) .none kV18 dc18 pm18 an18 cd18 ct18), sl18⟩) (c18 : PySem.W.codeIn K cd18 "clicks_of_cover" = true) (k18 : PySem.W.keepIn K (.ref f18) = true)
    {f19 : Addr} {od19 an19 : Option Addr} {sl19 : Array (Option Value)} {oc19 kV19 dc19 pm19 cd19 ct19 : Value}
    (a19 : PySem.W.nsIn K mainGlobals "is_cheapest" = some (some (.ref f19))) (l19 : K.lookup f19 = some ⟨oc19, od19, .func (PySem.W.fnOf "is_cheapest" "is_cheapest" (defArgs s_is_cheapest) (defBody s_is_cheapest) (defScope s_is_cheapest) .none kV19 dc19 pm19 an19 cd19 ct19), sl19⟩) (c19 : PySem.W.codeIn K cd19 "is_cheapest" = true) (k19 : PySem.W.keepIn K (.ref f19) = true)
    {f20 : Addr} {od20 an20 : Option Addr} {sl20 : Array (Option Value)} {oc20 kV20 dc20 pm20 cd20 ct20 : Value}
    (a20 : PySem.W.nsIn K mainGlobals "makers_in" = some (some (.ref f20))) (l20 : K.lookup f20 = some ⟨oc20, od20, .func (PySem.W.fnOf "makers_in" "makers_in" (defArgs s_makers_in) (defBody s_makers_in) (defScope s_makers_in) .none kV20 dc20 pm20 an20 cd20 ct20), sl20⟩) (c20 : PySem.W.codeIn K cd20 "makers_in" = true) (k20 : PySem.W.keepIn K (.ref f20) = true)
    {f21 : Addr} {od21 an21 : Option Addr} {sl21 : Array (Option Value)} {oc21 kV21 dc21 pm21 cd21 ct21 : Value}
    (a21 : PySem.W.nsIn K mainGlobals "makers" = some (some (.ref f21))) (l21 : K.lookup f21 = some ⟨oc21, od21, .func (PySem.W.fnOf "makers" "makers" (defArgs s_makers) (defBody s_makers) (defScope s_makers) .none kV21 dc21 pm21 an21 cd21 ct21), sl21⟩) (c21 : PySem.W.codeIn K cd21 "makers" = true) (k21 : PySem.W.keepIn K (.ref f21) = true)
    {f22 : Addr} {od22 an22 : Option Addr} {sl22 : Array (Option Value)} {oc22 kV22 dc22 pm22 cd22 ct22 : Value}
    (a22 : PySem.W.nsIn K mainGlobals "idle_clicks" = some (some (.ref f22))) (l22 : K.lookup f22 = some ⟨oc22, od22, .func (PySem.W.fnOf "idle_clicks" "idle_clicks" (defArgs s_idle_clicks) (defBody s_idle_clicks) (defScope s_idle_clicks) .none kV22 dc22 pm22 an22 cd22 ct22), sl22⟩) (c22 : PySem.W.codeIn K cd22 "idle_clicks" = true) (k22 : PySem.W.keepIn K (.ref f22) = true)
    {f23 : Addr} {od23 an23 : Option Addr} {sl23 : Array (Option Value)} {oc23 kV23 dc23 pm23 cd23 ct23 : Value}
    (a23 : PySem.W.nsIn K mainGlobals "cheapest_in" = some (some (.ref f23))) (l23 : K.lookup f23 = some ⟨oc23, od23, .func (PySem.W.fnOf "cheapest_in" "cheapest_in" (defArgs s_cheapest_in) (defBody s_cheapest_in) (defScope s_cheapest_in) .none kV23 dc23 pm23 an23 cd23 ct23), sl23⟩) (c23 : PySem.W.codeIn K cd23 "cheapest_in" = true) (k23 : PySem.W.keepIn K (.ref f23) = true)
    {f24 : Addr} {od24 an24 : Option Addr} {sl24 : Array (Option Value)} {oc24 kV24 dc24 pm24 cd24 ct24 : Value}
    (a24 : PySem.W.nsIn K mainGlobals "cheapest_clicks" = some (some (.ref f24))) (l24 : K.lookup f24 = some ⟨oc24, od24, .func (PySem.W.fnOf "cheapest_clicks" "cheapest_clicks" (defArgs s_cheapest_clicks) (defBody s_cheapest_clicks) (defScope s_cheapest_clicks) .none kV24 dc24 pm24 an24 cd24 ct24), sl24⟩) (c24 : PySem.W.codeIn K cd24 "cheapest_clicks" = true) (k24 : PySem.W.keepIn K (.ref f24) = true)
    {f25 : Addr} {od25 an25 : Option Addr} {sl25 : Array (Option Value)} {oc25 kV25 dc25 pm25 cd25 ct25 : Value}
    (a25 : PySem.W.nsIn K mainGlobals "_law_source" = some (some (.ref f25))) (l25 : K.lookup f25 = some ⟨oc25, od25, .func (PySem.W.fnOf "_law_source" "_law_source" (defArgs s__law_source) (defBody s__law_source) (defScope s__law_source) .none kV25 dc25 pm25 an25 cd25 ct25), sl25⟩) (c25 : PySem.W.codeIn K cd25 "_law_source" = true) (k25 : PySem.W.keepIn K (.ref f25) = true)
    {f26 : Addr} {od26 an26 : Option Addr} {sl26 : Array (Option Value)} {oc26 kV26 dc26 pm26 cd26 ct26 : Value}
    (a26 : PySem.W.nsIn K mainGlobals "_law_draw" = some (some (.ref f26))) (l26 : K.lookup f26 = some ⟨oc26, od26, .func (PySem.W.fnOf "_law_draw" "_law_draw" (defArgs s__law_draw) (defBody s__law_draw) (defScope s__law_draw) .none kV26 dc26 pm26 an26 cd26 ct26), sl26⟩) (c26 : PySem.W.codeIn K cd26 "_law_draw" = true) (k26 : PySem.W.keepIn K (.ref f26) = true)
    {f27 : Addr} {od27 an27 : Option Addr} {sl27 : Array (Option Value)} {oc27 kV27 dc27 pm27 cd27 ct27 : Value}
    (a27 : PySem.W.nsIn K mainGlobals "_law_some" = some (some (.ref f27))) (l27 : K.lookup f27 = some ⟨oc27, od27, .func (PySem.W.fnOf "_law_some" "_law_some" (defArgs s__law_some) (defBody s__law_some) (defScope s__law_some) .none kV27 dc27 pm27 an27 cd27 ct27), sl27⟩) (c27 : PySem.W.codeIn K cd27 "_law_some" = true) (k27 : PySem.W.keepIn K (.ref f27) = true)
    {f28 : Addr} {od28 an28 : Option Addr} {sl28 : Array (Option Value)} {oc28 kV28 dc28 pm28 cd28 ct28 : Value}
    (a28 : PySem.W.nsIn K mainGlobals "_law_clicks" = some (some (.ref f28))) (l28 : K.lookup f28 = some ⟨oc28, od28, .func (PySem.W.fnOf "_law_clicks" "_law_clicks" (defArgs s__law_clicks) (defBody s__law_clicks) (defScope s__law_clicks) .none kV28 dc28 pm28 an28 cd28 ct28), sl28⟩) (c28 : PySem.W.codeIn K cd28 "_law_clicks" = true) (k28 : PySem.W.keepIn K (.ref f28) = true)
    {f29 : Addr} {od29 an29 : Option Addr} {sl29 : Array (Option Value)} {oc29 kV29 dc29 pm29 cd29 ct29 : Value}
    (a29 : PySem.W.nsIn K mainGlobals "_law_done" = some (some (.ref f29))) (l29 : K.lookup f29 = some ⟨oc29, od29, .func (PySem.W.fnOf "_law_done" "_law_done" (defArgs s__law_done) (defBody s__law_done) (defScope s__law_done) .none kV29 dc29 pm29 an29 cd29 ct29), sl29⟩) (c29 : PySem.W.codeIn K cd29 "_law_done" = true) (k29 : PySem.W.keepIn K (.ref f29) = true)
    {f30 : Addr} {od30 an30 : Option Addr} {sl30 : Array (Option Value)} {oc30 kV30 dc30 pm30 cd30 ct30 : Value}
    (a30 : PySem.W.nsIn K mainGlobals "_law_borders" = some (some (.ref f30))) (l30 : K.lookup f30 = some ⟨oc30, od30, .func (PySem.W.fnOf "_law_borders" "_law_borders" (defArgs s__law_borders) (defBody s__law_borders) (defScope s__law_borders) .none kV30 dc30 pm30 an30 cd30 ct30), sl30⟩) (c30 : PySem.W.codeIn K cd30 "_law_borders" = true) (k30 : PySem.W.keepIn K (.ref f30) = true)
    {f31 : Addr} {od31 an31 : Option Addr} {sl31 : Array (Option Value)} {oc31 kV31 dc31 pm31 cd31 ct31 : Value}
    (a31 : PySem.W.nsIn K mainGlobals "_law_covers" = some (some (.ref f31))) (l31 : K.lookup f31 = some ⟨oc31, od31, .func (PySem.W.fnOf "_law_covers" "_law_covers" (defArgs s__law_covers) (defBody s__law_covers) (defScope s__law_covers) .none kV31 dc31 pm31 an31 cd31 ct31), sl31⟩) (c31 : PySem.W.codeIn K cd31 "_law_covers" = true) (k31 : PySem.W.keepIn K (.ref f31) = true)
    {f32 : Addr} {od32 an32 : Option Addr} {sl32 : Array (Option Value)} {oc32 kV32 dc32 pm32 cd32 ct32 : Value}
    (a32 : PySem.W.nsIn K mainGlobals "_law_number" = some (some (.ref f32))) (l32 : K.lookup f32 = some ⟨oc32, od32, .func (PySem.W.fnOf "_law_number" "_law_number" (defArgs s__law_number) (defBody s__law_number) (defScope s__law_number) .none kV32 dc32 pm32 an32 cd32 ct32), sl32⟩) (c32 : PySem.W.codeIn K cd32 "_law_number" = true) (k32 : PySem.W.keepIn K (.ref f32) = true)
    {f33 : Addr} {od33 an33 : Option Addr} {sl33 : Array (Option Value)} {oc33 kV33 dc33 pm33 cd33 ct33 : Value}
    (a33 : PySem.W.nsIn K mainGlobals "_law_marks" = some (some (.ref f33))) (l33 : K.lookup f33 = some ⟨oc33, od33, .func (PySem.W.fnOf "_law_marks" "_law_marks" (defArgs s__law_marks) (defBody s__law_marks) (defScope s__law_marks) .none kV33 dc33 pm33 an33 cd33 ct33), sl33⟩) (c33 : PySem.W.codeIn K cd33 "_law_marks" = true) (k33 : PySem.W.keepIn K (.ref f33) = true)
    {f34 : Addr} {od34 an34 : Option Addr} {sl34 : Array (Option Value)} {oc34 kV34 dc34 pm34 cd34 ct34 : Value}
    (a34 : PySem.W.nsIn K mainGlobals "_law_cover_right" = some (some (.ref f34))) (l34 : K.lookup f34 = some ⟨oc34, od34, .func (PySem.W.fnOf "_law_cover_right" "_law_cover_right" (defArgs s__law_cover_right) (defBody s__law_cover_right) (defScope s__law_cover_right) .none kV34 dc34 pm34 an34 cd34 ct34), sl34⟩) (c34 : PySem.W.codeIn K cd34 "_law_cover_right" = true) (k34 : PySem.W.keepIn K (.ref f34) = true)
    {f35 : Addr} {od35 an35 : Option Addr} {sl35 : Array (Option Value)} {oc35 kV35 dc35 pm35 cd35 ct35 : Value}
    (a35 : PySem.W.nsIn K mainGlobals "_law_makers_right" = some (some (.ref f35))) (l35 : K.lookup f35 = some ⟨oc35, od35, .func (PySem.W.fnOf "_law_makers_right" "_law_makers_right" (defArgs s__law_makers_right) (defBody s__law_makers_right) (defScope s__law_makers_right) .none kV35 dc35 pm35 an35 cd35 ct35), sl35⟩) (c35 : PySem.W.codeIn K cd35 "_law_makers_right" = true) (k35 : PySem.W.keepIn K (.ref f35) = true)
    {f36 : Addr} {od36 an36 : Option Addr} {sl36 : Array (Option Value)} {oc36 kV36 dc36 pm36 cd36 ct36 : Value}
    (a36 : PySem.W.nsIn K mainGlobals "law" = some (some (.ref f36))) (l36 : K.lookup f36 = some ⟨oc36, od36, .func (PySem.W.fnOf "law" "law" (defArgs s_law) (defBody s_law) (defScope s_law) .none kV36 dc36 pm36 an36 cd36 ct36), sl36⟩) (c36 : PySem.W.codeIn K cd36 "law" = true) (k36 : PySem.W.keepIn K (.ref f36) = true)
    {cD : Addr} {fI cI cdI : Addr} {ocI clI cclI : Value} {odI cldI cddI anI : Option Addr} {kVI docI pmI ctI : Value} {oslI cslI ccsI : Array (Option Value)} {vsI : Array Value} {flI : Str} {tfI : Tok} {cdD : ClassData}
    (aW : PySem.W.nsIn K mainGlobals "WindowError" = some (some (.ref cD))) (iI : PySem.W.findIn K (.ref cD) "__init__" = some (some (.ref fI)))
    (lI : K.lookup fI = some ⟨ocI, odI, .func (PySem.W.fnX "__init__" "WindowError.__init__" (defArgs s_init) (defBody s_init) (defScope s_init) [("__class__", cI)] .none kVI docI pmI anI (.ref cdI) ctI), oslI⟩) (qI : PySem.W.codeIn K (.ref cdI) "WindowError.__init__" = true)
    (ceI : K.lookup cI = some ⟨clI, cldI, .cell (some (.ref cD)), cslI⟩) (fiI : K.lookup cdI = some ⟨cclI, cddI, .fields vsI, ccsI⟩) (viI : vsI[2]? = some (.str flI tfI)) (wiI : ((PR.main.file : Str) == flI) = true) (clD : PySem.W.clsIn K cD = some cdD) (suI : PySem.W.nsIn K mainGlobals "super" = some none)
    (opI : PySem.W.nsIn K cStatics "thirdparty.any" = some none) (tyI : PySem.W.typeIn K (.ref fI) = some (.type "function"))
    {e0 : Addr} {nme0 qe0 : Str} {Ne0 : Addr} {bse0 : List Value} {sne0 : List Str} {sube0 : List Value} {abe0 : Bool} {cole0 : Option Bool} {dde0 : Option Addr} {m0e0 m1e0 m2e0 m3e0 m5e0 : Option Value}
    (aCe0 : PySem.W.nsIn K mainGlobals "WindowError" = some (some (.ref e0))) (xLe0 : K.lookup e0 = some (excClassObj nme0 qe0 e0 Ne0 bse0 PySem.HandSPX.veTail true sne0 sube0 abe0 cole0 dde0 m0e0 m1e0 m2e0 m3e0 m5e0 "ValueError.__new__")) (rve0 : e0 = cD)
    (sae0 : PySem.W.findIn K (.ref e0) "__setattr__" = some (some (.builtin "object.__setattr__"))) (gae0 : PySem.W.findIn K (.ref e0) "__getattribute__" = some (some (.builtin "BaseException.__getattribute__"))) (gge0 : PySem.W.findIn K (.ref e0) "__getattr__" = some none) (nve0 : PySem.W.findIn K (.ref e0) "value" = some none) (ine0 : PySem.W.findIn K (.ref e0) "__init__" = some (some (.ref fI)))
    (kCe0 : PySem.W.keepIn K (.ref e0) = true) (eCe0 : PySem.W.subIn K (.ref e0) (.type "BaseException") = some true) (tCe0 : PySem.W.typeIn K (.ref e0) = some (.type "type")) (hCe0 : PySem.W.hasDictIn K e0 = true) (mre0 : PySem.W.mroIn K e0 (.ref cD) = some true) (ice0 : PySem.W.isClsIn K e0 = true) (sve0 : PySem.W.subIn K (.ref e0) (.type "ValueError") = some true)
    {e1 : Addr} {nme1 qe1 : Str} {Ne1 : Addr} {bse1 : List Value} {sne1 : List Str} {sube1 : List Value} {abe1 : Bool} {cole1 : Option Bool} {dde1 : Option Addr} {m0e1 m1e1 m2e1 m3e1 m5e1 : Option Value}
    (aCe1 : PySem.W.nsIn K mainGlobals "InvalidNumber" = some (some (.ref e1))) (xLe1 : K.lookup e1 = some (excClassObj nme1 qe1 e1 Ne1 bse1 (.ref cD :: PySem.HandSPX.veTail) true sne1 sube1 abe1 cole1 dde1 m0e1 m1e1 m2e1 m3e1 m5e1 "ValueError.__new__")) (rve1 : (e1 == cD) = false)
    (sae1 : PySem.W.findIn K (.ref e1) "__setattr__" = some (some (.builtin "object.__setattr__"))) (gae1 : PySem.W.findIn K (.ref e1) "__getattribute__" = some (some (.builtin "BaseException.__getattribute__"))) (gge1 : PySem.W.findIn K (.ref e1) "__getattr__" = some none) (nve1 : PySem.W.findIn K (.ref e1) "value" = some none) (ine1 : PySem.W.findIn K (.ref e1) "__init__" = some (some (.ref fI)))
    (kCe1 : PySem.W.keepIn K (.ref e1) = true) (eCe1 : PySem.W.subIn K (.ref e1) (.type "BaseException") = some true) (tCe1 : PySem.W.typeIn K (.ref e1) = some (.type "type")) (hCe1 : PySem.W.hasDictIn K e1 = true) (mre1 : PySem.W.mroIn K e1 (.ref cD) = some true) (ice1 : PySem.W.isClsIn K e1 = true) (sve1 : PySem.W.subIn K (.ref e1) (.type "ValueError") = some true)
    {e2 : Addr} {nme2 qe2 : Str} {Ne2 : Addr} {bse2 : List Value} {sne2 : List Str} {sube2 : List Value} {abe2 : Bool} {cole2 : Option Bool} {dde2 : Option Addr} {m0e2 m1e2 m2e2 m3e2 m5e2 : Option Value}
    (aCe2 : PySem.W.nsIn K mainGlobals "InvalidRows" = some (some (.ref e2))) (xLe2 : K.lookup e2 = some (excClassObj nme2 qe2 e2 Ne2 bse2 (.ref cD :: PySem.HandSPX.veTail) true sne2 sube2 abe2 cole2 dde2 m0e2 m1e2 m2e2 m3e2 m5e2 "ValueError.__new__")) (rve2 : (e2 == cD) = false)
    (sae2 : PySem.W.findIn K (.ref e2) "__setattr__" = some (some (.builtin "object.__setattr__"))) (gae2 : PySem.W.findIn K (.ref e2) "__getattribute__" = some (some (.builtin "BaseException.__getattribute__"))) (gge2 : PySem.W.findIn K (.ref e2) "__getattr__" = some none) (nve2 : PySem.W.findIn K (.ref e2) "value" = some none) (ine2 : PySem.W.findIn K (.ref e2) "__init__" = some (some (.ref fI)))
    (kCe2 : PySem.W.keepIn K (.ref e2) = true) (eCe2 : PySem.W.subIn K (.ref e2) (.type "BaseException") = some true) (tCe2 : PySem.W.typeIn K (.ref e2) = some (.type "type")) (hCe2 : PySem.W.hasDictIn K e2 = true) (mre2 : PySem.W.mroIn K e2 (.ref cD) = some true) (ice2 : PySem.W.isClsIn K e2 = true) (sve2 : PySem.W.subIn K (.ref e2) (.type "ValueError") = some true)
    {e3 : Addr} {nme3 qe3 : Str} {Ne3 : Addr} {bse3 : List Value} {sne3 : List Str} {sube3 : List Value} {abe3 : Bool} {cole3 : Option Bool} {dde3 : Option Addr} {m0e3 m1e3 m2e3 m3e3 m5e3 : Option Value}
    (aCe3 : PySem.W.nsIn K mainGlobals "InvalidPosition" = some (some (.ref e3))) (xLe3 : K.lookup e3 = some (excClassObj nme3 qe3 e3 Ne3 bse3 (.ref cD :: PySem.HandSPX.veTail) true sne3 sube3 abe3 cole3 dde3 m0e3 m1e3 m2e3 m3e3 m5e3 "ValueError.__new__")) (rve3 : (e3 == cD) = false)
    (sae3 : PySem.W.findIn K (.ref e3) "__setattr__" = some (some (.builtin "object.__setattr__"))) (gae3 : PySem.W.findIn K (.ref e3) "__getattribute__" = some (some (.builtin "BaseException.__getattribute__"))) (gge3 : PySem.W.findIn K (.ref e3) "__getattr__" = some none) (nve3 : PySem.W.findIn K (.ref e3) "value" = some none) (ine3 : PySem.W.findIn K (.ref e3) "__init__" = some (some (.ref fI)))
    (kCe3 : PySem.W.keepIn K (.ref e3) = true) (eCe3 : PySem.W.subIn K (.ref e3) (.type "BaseException") = some true) (tCe3 : PySem.W.typeIn K (.ref e3) = some (.type "type")) (hCe3 : PySem.W.hasDictIn K e3 = true) (mre3 : PySem.W.mroIn K e3 (.ref cD) = some true) (ice3 : PySem.W.isClsIn K e3 = true) (sve3 : PySem.W.subIn K (.ref e3) (.type "ValueError") = some true)
    {e4 : Addr} {nme4 qe4 : Str} {Ne4 : Addr} {bse4 : List Value} {sne4 : List Str} {sube4 : List Value} {abe4 : Bool} {cole4 : Option Bool} {dde4 : Option Addr} {m0e4 m1e4 m2e4 m3e4 m5e4 : Option Value}
    (aCe4 : PySem.W.nsIn K mainGlobals "InvalidMarks" = some (some (.ref e4))) (xLe4 : K.lookup e4 = some (excClassObj nme4 qe4 e4 Ne4 bse4 (.ref cD :: PySem.HandSPX.veTail) true sne4 sube4 abe4 cole4 dde4 m0e4 m1e4 m2e4 m3e4 m5e4 "ValueError.__new__")) (rve4 : (e4 == cD) = false)
    (sae4 : PySem.W.findIn K (.ref e4) "__setattr__" = some (some (.builtin "object.__setattr__"))) (gae4 : PySem.W.findIn K (.ref e4) "__getattribute__" = some (some (.builtin "BaseException.__getattribute__"))) (gge4 : PySem.W.findIn K (.ref e4) "__getattr__" = some none) (nve4 : PySem.W.findIn K (.ref e4) "value" = some none) (ine4 : PySem.W.findIn K (.ref e4) "__init__" = some (some (.ref fI)))
    (kCe4 : PySem.W.keepIn K (.ref e4) = true) (eCe4 : PySem.W.subIn K (.ref e4) (.type "BaseException") = some true) (tCe4 : PySem.W.typeIn K (.ref e4) = some (.type "type")) (hCe4 : PySem.W.hasDictIn K e4 = true) (mre4 : PySem.W.mroIn K e4 (.ref cD) = some true) (ice4 : PySem.W.isClsIn K e4 = true) (sve4 : PySem.W.subIn K (.ref e4) (.type "ValueError") = some true)
    {e5 : Addr} {nme5 qe5 : Str} {Ne5 : Addr} {bse5 : List Value} {sne5 : List Str} {sube5 : List Value} {abe5 : Bool} {cole5 : Option Bool} {dde5 : Option Addr} {m0e5 m1e5 m2e5 m3e5 m5e5 : Option Value}
    (aCe5 : PySem.W.nsIn K mainGlobals "InvalidValue" = some (some (.ref e5))) (xLe5 : K.lookup e5 = some (excClassObj nme5 qe5 e5 Ne5 bse5 (.ref cD :: PySem.HandSPX.veTail) true sne5 sube5 abe5 cole5 dde5 m0e5 m1e5 m2e5 m3e5 m5e5 "ValueError.__new__")) (rve5 : (e5 == cD) = false)
    (sae5 : PySem.W.findIn K (.ref e5) "__setattr__" = some (some (.builtin "object.__setattr__"))) (gae5 : PySem.W.findIn K (.ref e5) "__getattribute__" = some (some (.builtin "BaseException.__getattribute__"))) (gge5 : PySem.W.findIn K (.ref e5) "__getattr__" = some none) (nve5 : PySem.W.findIn K (.ref e5) "value" = some none) (ine5 : PySem.W.findIn K (.ref e5) "__init__" = some (some (.ref fI)))
    (kCe5 : PySem.W.keepIn K (.ref e5) = true) (eCe5 : PySem.W.subIn K (.ref e5) (.type "BaseException") = some true) (tCe5 : PySem.W.typeIn K (.ref e5) = some (.type "type")) (hCe5 : PySem.W.hasDictIn K e5 = true) (mre5 : PySem.W.mroIn K e5 (.ref cD) = some true) (ice5 : PySem.W.isClsIn K e5 = true) (sve5 : PySem.W.subIn K (.ref e5) (.type "ValueError") = some true)
    {e6 : Addr} {nme6 qe6 : Str} {Ne6 : Addr} {bse6 : List Value} {sne6 : List Str} {sube6 : List Value} {abe6 : Bool} {cole6 : Option Bool} {dde6 : Option Addr} {m0e6 m1e6 m2e6 m3e6 m5e6 : Option Value}
    (aCe6 : PySem.W.nsIn K mainGlobals "InvalidDeed" = some (some (.ref e6))) (xLe6 : K.lookup e6 = some (excClassObj nme6 qe6 e6 Ne6 bse6 (.ref cD :: PySem.HandSPX.veTail) true sne6 sube6 abe6 cole6 dde6 m0e6 m1e6 m2e6 m3e6 m5e6 "ValueError.__new__")) (rve6 : (e6 == cD) = false)
    (sae6 : PySem.W.findIn K (.ref e6) "__setattr__" = some (some (.builtin "object.__setattr__"))) (gae6 : PySem.W.findIn K (.ref e6) "__getattribute__" = some (some (.builtin "BaseException.__getattribute__"))) (gge6 : PySem.W.findIn K (.ref e6) "__getattr__" = some none) (nve6 : PySem.W.findIn K (.ref e6) "value" = some none) (ine6 : PySem.W.findIn K (.ref e6) "__init__" = some (some (.ref fI)))
    (kCe6 : PySem.W.keepIn K (.ref e6) = true) (eCe6 : PySem.W.subIn K (.ref e6) (.type "BaseException") = some true) (tCe6 : PySem.W.typeIn K (.ref e6) = some (.type "type")) (hCe6 : PySem.W.hasDictIn K e6 = true) (mre6 : PySem.W.mroIn K e6 (.ref cD) = some true) (ice6 : PySem.W.isClsIn K e6 = true) (sve6 : PySem.W.subIn K (.ref e6) (.type "ValueError") = some true)
    {kk_CLICK : Tok} (ak_CLICK : PySem.W.nsIn K mainGlobals "CLICK" = some (some (.str "click" kk_CLICK)))
    {kk_RANGE : Tok} (ak_RANGE : PySem.W.nsIn K mainGlobals "RANGE" = some (some (.str "range" kk_RANGE)))
    (z_len : PySem.W.nsIn K mainGlobals "len" = some none)
    (z_set : PySem.W.nsIn K mainGlobals "set" = some none)
    (z_list : PySem.W.nsIn K mainGlobals "list" = some none)
    (z_all : PySem.W.nsIn K mainGlobals "all" = some none)
    (z_zip : PySem.W.nsIn K mainGlobals "zip" = some none)
    (z_enumerate : PySem.W.nsIn K mainGlobals "enumerate" = some none)
    (z_sorted : PySem.W.nsIn K mainGlobals "sorted" = some none)
    (z_min : PySem.W.nsIn K mainGlobals "min" = some none)
    (z_max : PySem.W.nsIn K mainGlobals "max" = some none)
    (z_range : PySem.W.nsIn K mainGlobals "range" = some none)
    (z_sum : PySem.W.nsIn K mainGlobals "sum" = some none)
    (z_int : PySem.W.nsIn K mainGlobals "int" = some none)
    (z_dict : PySem.W.nsIn K mainGlobals "dict" = some none)
    (z_repr : PySem.W.nsIn K mainGlobals "repr" = some none)
    : ∃ T : Txt K mg, T.d_law = PySem.W.fnOf "law" "law" (defArgs s_law) (defBody s_law) (defScope s_law) .none kV36 dc36 pm36 an36 cd36 ct36 ∧ T.a_law = f36 :=
  ⟨⟨f0, _, fun_mk (st := s_check_there) l0 c0 k0, PySem.W.mg_of X G a0, f1, _, fun_mk (st := s_are_marks) l1 c1 k1, PySem.W.mg_of X G a1, f2, _, fun_mk (st := s_check_marks_there) l2 c2 k2, PySem.W.mg_of X G a2, f3, _, fun_mk (st := s_check_clicks) l3 c3 k3, PySem.W.mg_of X G a3, f4, _, fun_mk (st := s_places_of) l4 c4 k4, PySem.W.mg_of X G a4, f5, _, fun_mk (st := s_marked_in) l5 c5 k5, PySem.W.mg_of X G a5, f6, _, fun_mk (st := s_borders_in) l6 c6 k6, PySem.W.mg_of X G a6, f7, _, fun_mk (st := s_blocks_of) l7 c7 k7, PySem.W.mg_of X G a7, f8, _, fun_mk (st := s_cost_in) l8 c8 k8, PySem.W.mg_of X G a8, f9, _, fun_mk (st := s_check_case) l9 c9 k9, PySem.W.mg_of X G a9, f10, _, fun_mk (st := s_numbers_of_covers) l10 c10 k10, PySem.W.mg_of X G a10, f11, _, fun_mk (st := s_count_covers) l11 c11 k11, PySem.W.mg_of X G a11, f12, _, fun_mk (st := s_block_cover) l12 c12 k12, PySem.W.mg_of X G a12, f13, _, fun_mk (st := s_cover_in) l13 c13 k13, PySem.W.mg_of X G a13, f14, _, fun_mk (st := s_cover_at) l14 c14 k14, PySem.W.mg_of X G a14, f15, _, fun_mk (st := s_clicks_in) l15 c15 k15, PySem.W.mg_of X G a15, f16, _, fun_mk (st := s_is_token) l16 c16 k16, PySem.W.mg_of X G a16, f17, _, fun_mk (st := s_is_best_cover) l17 c17 k17, PySem.W.mg_of X G a17, f18, _, fun_mk (st := s_clicks_of_cover) l18 c18 k18, PySem.W.mg_of X G a18, f19, _, fun_mk (st := s_is_cheapest) l19 c19 k19, PySem.W.mg_of X G a19, f20, _, fun_mk (st := s_makers_in) l20 c20 k20, PySem.W.mg_of X G a20, f21, _, fun_mk (st := s_makers) l21 c21 k21, PySem.W.mg_of X G a21, f22, _, fun_mk (st := s_idle_clicks) l22 c22 k22, PySem.W.mg_of X G a22, f23, _, fun_mk (st := s_cheapest_in) l23 c23 k23, PySem.W.mg_of X G a23, f24, _, fun_mk (st := s_cheapest_clicks) l24 c24 k24, PySem.W.mg_of X G a24, f25, _, fun_mk (st := s__law_source) l25 c25 k25, PySem.W.mg_of X G a25, f26, _, fun_mk (st := s__law_draw) l26 c26 k26, PySem.W.mg_of X G a26, f27, _, fun_mk (st := s__law_some) l27 c27 k27, PySem.W.mg_of X G a27, f28, _, fun_mk (st := s__law_clicks) l28 c28 k28, PySem.W.mg_of X G a28, f29, _, fun_mk (st := s__law_done) l29 c29 k29, PySem.W.mg_of X G a29, f30, _, fun_mk (st := s__law_borders) l30 c30 k30, PySem.W.mg_of X G a30, f31, _, fun_mk (st := s__law_covers) l31 c31 k31, PySem.W.mg_of X G a31, f32, _, fun_mk (st := s__law_number) l32 c32 k32, PySem.W.mg_of X G a32, f33, _, fun_mk (st := s__law_marks) l33 c33 k33, PySem.W.mg_of X G a33, f34, _, fun_mk (st := s__law_cover_right) l34 c34 k34, PySem.W.mg_of X G a34, f35, _, fun_mk (st := s__law_makers_right) l35 c35 k35, PySem.W.mg_of X G a35, f36, _, fun_mk (st := s_law) l36 c36 k36, PySem.W.mg_of X G a36, fI, cI, cdI, cD, _, ⟨⟨_, _, _, _, _, _, _, _, rfl, lI⟩, qI, ⟨_, _, _, ceI⟩, ⟨_, _, _, _, _, _, fiI, viI, wiI⟩, ⟨_, clD⟩, PySem.W.mg_none_of X G suI, by rfl, opI⟩, e0, ⟨⟨⟨_, _, _, _, _, _, _, _, _, _, _, _, _, _, _, xLe0, rfl⟩, sae0, eCe0, tCe0, kCe0⟩, ine0, tyI, nve0, mre0, sup_self xLe0 rve0, sve0, ⟨gae0, gge0, eCe0, hCe0⟩⟩, PySem.W.mg_of X G aCe0, e1, ⟨⟨⟨_, _, _, _, _, _, _, _, _, _, _, _, _, _, _, xLe1, rfl⟩, sae1, eCe1, tCe1, kCe1⟩, ine1, tyI, nve1, mre1, sup_child xLe1 rve1, sve1, ⟨gae1, gge1, eCe1, hCe1⟩⟩, PySem.W.mg_of X G aCe1, e2, ⟨⟨⟨_, _, _, _, _, _, _, _, _, _, _, _, _, _, _, xLe2, rfl⟩, sae2, eCe2, tCe2, kCe2⟩, ine2, tyI, nve2, mre2, sup_child xLe2 rve2, sve2, ⟨gae2, gge2, eCe2, hCe2⟩⟩, PySem.W.mg_of X G aCe2, e3, ⟨⟨⟨_, _, _, _, _, _, _, _, _, _, _, _, _, _, _, xLe3, rfl⟩, sae3, eCe3, tCe3, kCe3⟩, ine3, tyI, nve3, mre3, sup_child xLe3 rve3, sve3, ⟨gae3, gge3, eCe3, hCe3⟩⟩, PySem.W.mg_of X G aCe3, e4, ⟨⟨⟨_, _, _, _, _, _, _, _, _, _, _, _, _, _, _, xLe4, rfl⟩, sae4, eCe4, tCe4, kCe4⟩, ine4, tyI, nve4, mre4, sup_child xLe4 rve4, sve4, ⟨gae4, gge4, eCe4, hCe4⟩⟩, PySem.W.mg_of X G aCe4, e5, ⟨⟨⟨_, _, _, _, _, _, _, _, _, _, _, _, _, _, _, xLe5, rfl⟩, sae5, eCe5, tCe5, kCe5⟩, ine5, tyI, nve5, mre5, sup_child xLe5 rve5, sve5, ⟨gae5, gge5, eCe5, hCe5⟩⟩, PySem.W.mg_of X G aCe5, e6, ⟨⟨⟨_, _, _, _, _, _, _, _, _, _, _, _, _, _, _, xLe6, rfl⟩, sae6, eCe6, tCe6, kCe6⟩, ine6, tyI, nve6, mre6, sup_child xLe6 rve6, sve6, ⟨gae6, gge6, eCe6, hCe6⟩⟩, PySem.W.mg_of X G aCe6, kk_CLICK, PySem.W.mg_of X G ak_CLICK, kk_RANGE, PySem.W.mg_of X G ak_RANGE, PySem.W.mg_none_of X G z_len, PySem.W.mg_none_of X G z_set, PySem.W.mg_none_of X G z_list, PySem.W.mg_none_of X G z_all, PySem.W.mg_none_of X G z_zip, PySem.W.mg_none_of X G z_enumerate, PySem.W.mg_none_of X G z_sorted, PySem.W.mg_none_of X G z_min, PySem.W.mg_none_of X G z_max, PySem.W.mg_none_of X G z_range, PySem.W.mg_none_of X G z_sum, PySem.W.mg_none_of X G z_int, PySem.W.mg_none_of X G z_dict, PySem.W.mg_none_of X G z_repr⟩, rfl, rfl⟩
theorem walk {l : PySem.W.OpenLaw} {q : Program} {loose : List Str} {XP : (Str → Option Value) → Heap → Prop} {YP : World → Heap → Prop} {d : DefRec} {K : Params → PySem.W.Frag} (hn : l.most = some 63) (hdf : d.params.defaults = [])
    (hY : ∀ (w : World) (h : Heap), YP w h → (K w.params).In h)
    (F : ∀ (w : World) (mg : Str → Option Value) (fa : Addr) (h : Heap), (K w.params).In h → h.Ns mainGlobals mg → mg d.name = some (.ref fa) →
      ∃ fd : FuncData, (∀ (s : Shared) (u : Value), BindsTo s fd ⟨[u], []⟩ [("_law_script", u)]) ∧ ∀ base : Heap, (K w.params).In base → base.Ns mainGlobals mg → FnOkG l.prog w (K w.params) mg base CX0 17 fa fd ["_law_script"] (sp_law (K w.params))) :
    PySem.W.WalkO q loose XP YP l.row.toRowW d [] (fun f vs => PySem.call f vs) :=
  My.walk_ofG (n := 63) (k := 17) (x := "_law_script") (CX := fun _ => CX0) (sp := fun w => sp_law (K w.params)) hn (by decide) hdf ⟨rfl, by decide, by decide⟩ hY F (fun _ _ a ns hl _ hS => ⟨a, ns, rfl, hS, hl, fun _ => rfl⟩) fun _ _ _ _ _ z => z
end K31
open PySem PySem.W PyProof.Rows
set_option maxRecDepth 100000 in
set_option maxHeartbeats 0 in
theorem PySem.Challenge.cw_listwindow_k31_covers_and_makers_holds : PySem.Challenge.rw_listwindow_k31_covers_and_makers.Holds := by
  w_on; o_law; k_head; (case hw => w_witness2)
  k_fill
  refine K31.walk (l := PySem.Challenge.rw_listwindow_k31_covers_and_makers) rfl rfl (fun w h Y => PySem.W.kIn_of Y) ?F
  case F =>
    intro w mg fa h KX G hmg
    have T : ∃ T : K31.Txt _ mg, _ ∧ _ := K31.all_mk KX G (by k_is) (by k_is) (by k_is) (by k_is) (by k_is) (by k_is) (by k_is) (by k_is) (by k_is) (by k_is) (by k_is) (by k_is) (by k_is) (by k_is) (by k_is) (by k_is) (by k_is) (by k_is) (by k_is) (by k_is) (by k_is) (by k_is) (by k_is) (by k_is) (by k_is) (by k_is) (by k_is) (by k_is) (by k_is) (by k_is) (by k_is) (by k_is) (by k_is) (by k_is) (by k_is) (by k_is) (by k_is) (by k_is) (by k_is) (by k_is) (by k_is) (by k_is) (by k_is) (by k_is) (by k_is) (by k_is) (by k_is) (by k_is) (by k_is) (by k_is) (by k_is) (by k_is) (by k_is) (by k_is) (by k_is) (by k_is) (by k_is) (by k_is) (by k_is) (by k_is) (by k_is) (by k_is) (by k_is) (by k_is) (by k_is) (by k_is) (by k_is) (by k_is) (by k_is) (by k_is) (by k_is) (by k_is) (by k_is) (by k_is) (by k_is) (by k_is) (by k_is) (by k_is) (by k_is) (by k_is) (by k_is) (by k_is) (by k_is) (by k_is) (by k_is) (by k_is) (by k_is) (by k_is) (by k_is) (by k_is) (by k_is) (by k_is) (by k_is) (by k_is) (by k_is) (by k_is) (by k_is) (by k_is) (by k_is) (by k_is) (by k_is) (by k_is) (by k_is) (by k_is) (by k_is) (by k_is) (by k_is) (by k_is) (by k_is) (by k_is) (by k_is) (by k_is) (by k_is) (by k_is) (by k_is) (by k_is) (by k_is) (by k_is) (by k_is) (by k_is) (by k_is) (by k_is) (by k_is) (by k_is) (by k_is) (by k_is) (by k_is) (by k_is) (by k_is) (by k_is) (by k_is) (by k_is) (by k_is) (by k_is) (by k_is) (by k_is) (by k_is) (by k_is) (by k_is) (by k_is) (by k_is) (by k_is) (by k_is) (by k_is) (by k_is) (by k_is) (by k_is) (by k_is) (by k_is) (by k_is) (by k_is) (by k_is) (by k_is) (by k_is) (by rfl) (by decide +kernel) (by k_is) (by k_is) (by k_is) (by k_is) (by k_is) (by k_is) (by rfl) (by k_is) (by k_is) (by k_is) (by k_is) (by k_is) (by k_is) (by k_is) (by k_is) (by k_is) (by k_is) (by k_is) (by k_is) (by k_is) (by k_is) (by rfl) (by k_is) (by k_is) (by k_is) (by k_is) (by k_is) (by k_is) (by k_is) (by k_is) (by k_is) (by k_is) (by k_is) (by k_is) (by k_is) (by k_is) (by rfl) (by k_is) (by k_is) (by k_is) (by k_is) (by k_is) (by k_is) (by k_is) (by k_is) (by k_is) (by k_is) (by k_is) (by k_is) (by k_is) (by k_is) (by rfl) (by k_is) (by k_is) (by k_is) (by k_is) (by k_is) (by k_is) (by k_is) (by k_is) (by k_is) (by k_is) (by k_is) (by k_is) (by k_is) (by k_is) (by rfl) (by k_is) (by k_is) (by k_is) (by k_is) (by k_is) (by k_is) (by k_is) (by k_is) (by k_is) (by k_is) (by k_is) (by k_is) (by k_is) (by k_is) (by rfl) (by k_is) (by k_is) (by k_is) (by k_is) (by k_is) (by k_is) (by k_is) (by k_is) (by k_is) (by k_is) (by k_is) (by k_is) (by k_is) (by k_is) (by rfl) (by k_is) (by k_is) (by k_is) (by k_is) (by k_is) (by k_is) (by k_is) (by k_is) (by k_is) (by k_is) (by k_is) (by k_is) (by k_is) (by k_is) (by k_is) (by k_is) (by k_is) (by k_is) (by k_is) (by k_is) (by k_is) (by k_is) (by k_is) (by k_is) (by k_is) (by k_is) (by k_is) (by k_is)
    obtain ⟨T, e1, e2⟩ := T
    have e3 := hmg.symm.trans T.g_law
    cases e3
    exact ⟨T.d_law, fun s v => by rw [e1]; exact .of_eq rfl, fun base _ _ => K31.ok_law T⟩
#print axioms PySem.Challenge.cw_listwindow_k31_covers_and_makers_holds

