import PyProof.Rows.All
import Wide.All
import OpenK.AllK
import Wide.FinOn
import HandS.ForMost
import HandS.Wide
import HandS.Style
import HandS.SortInts
import HandS.IsInst
import HandS.Evl
import HandS.Walk
import HandS.ForExc
import HandS.ExcInit
import HandS.ExcField
import HandS.ExcSuper
import HandS.Nested
import KE.KExcSuper
import HandS.Zip
import HandS.Sort
import PyProof.ZipIter
import HandS.TryMany
import PyProof.ReprRoads
import HandS.DictTup
import HandS.Set
import HandS.Dict
import HandS.DictComp
import HandS.NoneIn
import HandS.Conv
import HandS.OwnEq
import HandS.Property
import KE.SortKeyed
import HandS.SortOrd
import HandS.SetFor
import HandS.Strs
import HandS.Star
import KE.SortData
import KE.GoesEnum
import KE.KDictKeyed
import KE.KDictDisplayH
import HandS.TupLen
import KE.KDictPairs
import KE.DataCmp
import PySem.Challenge.RW_listwindow_k36_fewest_turns_by_all_lists
set_option Elab.async false
set_option linter.all false
set_option maxRecDepth 100000
set_option maxHeartbeats 4000000
/-! My own rules over the hand layer: calls by keywords alone, powers of great ints, what a heap keeps. -/
namespace My
open PySem PySem.Spec PyProof.Rows L2
/-! ### calls by keywords -/
def kg (n m : Nat) (π : List Nat) {α : Type} (us ws : List α) : List α := if us.length = n ∧ ws.length = m then π.filterMap (fun i => (us ++ ws)[i]?) else []
theorem vals_pick {xs : List V} {us : List Value} (r : Vals xs us) : ∀ (π : List Nat), Vals (π.filterMap (fun i => xs[i]?)) (π.filterMap (fun i => us[i]?))
  | [] => .nil
  | i :: π => by
    have ih := vals_pick r π
    cases e : xs[i]? with
    | none =>
      rw [List.filterMap_cons, e, List.filterMap_cons, r.none_of e]
      exact ih
    | some x =>
      obtain ⟨u, h1, h2⟩ := r.get e
      rw [List.filterMap_cons, e, List.filterMap_cons, h1]
      exact .cons h2 ih
theorem kg_rel {n m : Nat} {π : List Nat} {vs zs : List V} {us ws : List Value} (r : Vals vs us) (rz : Vals zs ws) : Vals (kg n m π vs zs) (kg n m π us ws) := by
  unfold kg
  rw [r.length, rz.length]
  split
  · exact vals_pick (r.append rz) π
  · exact .nil
theorem kbinds {K : PySem.W.Frag} {x qual : Str} {st : Stmt} {f : Addr} {fd : FuncData} {ps ks : List Str} (n m : Nat) (π : List Nat) (F : Fun K x qual st f fd) (hp : 0 < ps.length)
    (h : ∀ (kV doc pm : Value) (an : Option Addr) (cdv ct : Value) (us ws : List Value), us.length = n → ws.length = m → bindArgs (PySem.W.fnOf x qual (defArgs st) (defBody st) (defScope st) .none kV doc pm an cdv ct) ⟨us, ks.zip ws⟩ = pure (ps.zip (kg n m π us ws))) : KBinds K fd ps ks (kg n m π) (kg n m π) := by
  obtain ⟨oc, od, kV, doc, pm, an, cdv, ct, osl, rfl, lk, hcd⟩ := F.ex
  refine ⟨fun s us ws _ hl => ?_, fun r rz => kg_rel r rz⟩
  by_cases z : us.length = n ∧ ws.length = m
  · exact .of_eq (h kV doc pm an cdv ct us ws z.1 z.2)
  · unfold kg at hl
    rw [if_neg z] at hl
    rw [← hl] at hp
    exact absurd hp (Nat.lt_irrefl _)
section
variable {X : Cx} {CX : CXT} {k : Nat} {f C : Addr} {fd : FuncData} {ps ks : List Str} {sp : Sp} {E : XK} {x m : Str} {p pos apos kpos : Pos} {kws : List Keyword} {tk : TA} {g : List Value → List Value → List Value} {gV : List V → List V → List V}
/-- f(k = v, ..) -/
theorem pe_callK0 (F : FnOk X.prog X.w X.K X.mg X.base CX k f fd ps sp) (hr : Room k X.A) (hg : Gl X x) (hm : X.mg x = some (.ref f)) (hk : PySem.W.keepIn X.K (.ref f) = true) (hb : KBinds X.K fd ps ks g gV) (hx : Passes CX X E)
    (hkw : PK X kws tk) (hall : (backToKw pos (keywordEach kws X.env)).all (·.1.isSome) = true := by rfl) (hks : (backToKw pos (keywordEach kws X.env)).filterMap (·.1) = ks := by rfl)
    (hdb : (x == ("__debug__" : Str)) = false := by decide)
    (hpl : ((backTo pos (starEach [] X.env)).any (·.1) || (backToKw pos (keywordEach kws X.env)).any (·.1.isNone)) = false := by rfl) :
    PE X (.Call (.Name x p) [] kws pos) (tCallK sp gV E tNil tk) := by
  refine ⟨fun pins s σ H Q I h => ?_⟩
  refine wpAny_Call_Name_kw (ld_glob I hg hm ?_ hdb)
  refine PySem.W.callWith_KW0 (h₀ := X.base) I.ok.mod.kin hk hall ?_ hpl
  refine thn (hkw.run pos pins s σ H _ I h) fun ws s2 ⟨zs, H2, I2, rz, q2⟩ => ⟨I2.kIn, ?_⟩
  rw [hks]
  exact run_fnk (us := []) (vs := []) F hr hb hx I2 .nil rz q2
end
/-! ### powers of great ints -/
/-- a power of together at most 2 ^ 27 bits -/
def CPowW (i j : Int) : Prop := 0 ≤ j ∧ ((i.natAbs.log2 : Int) + 1) * j ≤ 2 ^ 27
theorem bits_le (x : Int) : (Builtin.Int.intBits x : Int) ≤ (x.natAbs.log2 : Int) + 1 := by
  unfold Builtin.Int.intBits
  split <;> omega
theorem op_powW {X : Cx} : OpR X (binaryOp .Pow) (rI CPowW fun i j => .int (i ^ j.toNat)) := opI fun i j _ _ _ _ _ hc q =>
  pow_int hc.1 (Int.le_trans (Int.mul_le_mul_of_nonneg_right (bits_le i) hc.1) hc.2) q
theorem powW_of {i : Int} {j : Nat} {a : Nat} (h : i.natAbs < 2 ^ a) (h0 : 0 < a) (hj : a * j ≤ 2 ^ 27) : CPowW i (j : Int) := by
  have := PySem.Flt.log2_lt_of h0 h
  refine ⟨Int.natCast_nonneg _, ?_⟩
  have e : ((i.natAbs.log2 : Int) + 1) * (j : Int) = (((i.natAbs.log2 + 1) * j : Nat) : Int) := by
    rw [Int.natCast_mul]
    rfl
  rw [e]
  have : (i.natAbs.log2 + 1) * j ≤ a * j := Nat.mul_le_mul_right _ this
  have : (i.natAbs.log2 + 1) * j ≤ 2 ^ 27 := Nat.le_trans this hj
  omega
/-! ### heaps -/
abbrev Ex := Evl.Ex
/-- all but the object at j is as it was -/
def Exj (j : Addr) (H H' : Hp) : Prop := ∀ b o, b ≠ j → H b = some o → H' b = some o
theorem Exj.refl (j : Addr) (H : Hp) : Exj j H H := fun _ _ _ h => h
theorem Exj.trans {j : Addr} {H H1 H2 : Hp} (a : Exj j H H1) (b : Exj j H1 H2) : Exj j H H2 := fun x o n h => b x o n (a x o n h)
theorem Exj.of {j : Addr} {H H' : Hp} (a : Ex H H') : Exj j H H' := fun x o _ h => a x o h
theorem Exj.upd {j : Addr} {H H' : Hp} {o : HO} (a : Exj j H H') : Exj j H (upd H' j o) := fun x u n h => by
  rw [upd_ne n]
  exact a x u n h
theorem Exj.new {j p : Addr} {H H' : Hp} {o : HO} (a : Exj j H H') (h : H' p = none) : Exj j H (L2.upd H' p o) := fun x u n e => by
  have := a x u n e
  rw [upd_ne (ne_of_none this h)]
  exact this
theorem Exj.sq {K : PySem.W.Frag} {j : Addr} {H H' : Hp} {a : Addr} {xs : List V} (e : Exj j H H') (n : a ≠ j) (h : SqL K H a xs) : SqL K H' a xs := by
  rcases h with (h | ⟨o, h⟩) | h
  · exact .inl (.inl (e _ _ n h))
  · exact .inl (.inr ⟨o, e _ _ n h⟩)
  · exact .inr h
/-- a new object, its heap by name -/
theorem newO {H : Hp} {o : HO} {P : V → Hp → Prop} (k : ∀ p H', H p = none → Ex H H' → H' p = some o → P (.ref p) H') : ∀ p, H p = none → P (.ref p) (L2.upd H p o) := fun p hp => k p _ hp (Evl.Ex.new hp) upd_same
theorem sqI {K : PySem.W.Frag} {H : Hp} {a : Addr} {xs : List V} (h : H a = some (.lst xs)) : SqL K H a xs := .inl (.inl h)
theorem sqT {K : PySem.W.Frag} {H : Hp} {a : Addr} {xs : List V} (h : H a = some (.tup xs)) : SqT K H a xs := .inl (.inl h)
/-! ### data: how a thing of Lean stands in the heap -/
/-- a way of writing things as data: it can be laid, it is no deeper than n, equal data are equal things -/
structure Good {α : Type} [DecidableEq α] (e : α → PyData) (n : Nat) : Prop where
  lay : ∀ x, (e x).canLay0 = true
  dep : ∀ x, (e x).depth ≤ n
  eqv : ∀ x y, PyData.eqv (e x) (e y) = decide (x = y)
def eL {α : Type} (e : α → PyData) (xs : List α) : PyData := .list (xs.map e)
def eT {α : Type} (e : α → PyData) (xs : List α) : PyData := .tuple (xs.map e)
def eP {α β : Type} (e : α → PyData) (f : β → PyData) (p : α × β) : PyData := .tuple [e p.1, f p.2]
theorem goodI : Good PyData.int 0 := ⟨fun _ => rfl, fun _ => Nat.le_refl _, fun x y => by
  show (x == y) = _
  rw [Bool.eq_iff_iff]
  simp⟩
theorem goodB : Good PyData.bool 0 := ⟨fun _ => rfl, fun _ => Nat.le_refl _, fun x y => by
  show (x == y) = _
  rw [Bool.eq_iff_iff]
  simp⟩
section
variable {α β : Type} [DecidableEq α] [DecidableEq β] {e : α → PyData} {f : β → PyData} {n m : Nat}
theorem Good.layAll (g : Good e n) : ∀ xs : List α, PyData.canLayAll0 (xs.map e) = true
  | [] => rfl
  | x :: xs => by
    show (PyData.canLay0 (e x) && PyData.canLayAll0 (xs.map e)) = true
    rw [g.layAll xs, g.lay x]
    rfl
theorem Good.depAll (g : Good e n) : ∀ xs : List α, PyData.depthAll (xs.map e) ≤ n
  | [] => Nat.zero_le _
  | x :: xs => by
    show max (PyData.depth (e x)) (PyData.depthAll (xs.map e)) ≤ n
    exact Nat.max_le.mpr ⟨g.dep x, g.depAll xs⟩
theorem Good.eqvAll (g : Good e n) : ∀ xs ys : List α, PyData.eqvAll (xs.map e) (ys.map e) = decide (xs = ys)
  | [], [] => rfl
  | [], _ :: _ => rfl
  | _ :: _, [] => rfl
  | x :: xs, y :: ys => by
    show (PyData.eqv (e x) (e y) && PyData.eqvAll (xs.map e) (ys.map e)) = _
    rw [g.eqvAll xs ys, g.eqv, Bool.eq_iff_iff]
    simp
theorem goodL (g : Good e n) : Good (eL e) (n + 1) := ⟨fun xs => g.layAll xs, fun xs => by
  show PyData.depthAll (xs.map e) + 1 ≤ n + 1
  have := g.depAll xs
  omega, fun xs ys => g.eqvAll xs ys⟩
theorem goodT (g : Good e n) : Good (eT e) (n + 1) := ⟨fun xs => g.layAll xs, fun xs => by
  show PyData.depthAll (xs.map e) + 1 ≤ n + 1
  have := g.depAll xs
  omega, fun xs ys => g.eqvAll xs ys⟩
theorem goodP (g : Good e n) (k : Good f n) : Good (eP e f) (n + 1) := ⟨fun p => by
    show (PyData.canLay0 (e p.1) && (PyData.canLay0 (f p.2) && true)) = true
    rw [g.lay, k.lay]
    rfl, fun p => by
    show max (PyData.depth (e p.1)) (max (PyData.depth (f p.2)) 0) + 1 ≤ n + 1
    have h1 := g.dep p.1
    have h2 := k.dep p.2
    have : max (PyData.depth (e p.1)) (max (PyData.depth (f p.2)) 0) ≤ n := Nat.max_le.mpr ⟨h1, Nat.max_le.mpr ⟨h2, Nat.zero_le _⟩⟩
    omega, fun p q => by
    show (PyData.eqv (e p.1) (e q.1) && (PyData.eqv (f p.2) (f q.2) && true)) = _
    rw [g.eqv, k.eqv, Bool.eq_iff_iff]
    obtain ⟨a, b⟩ := p
    obtain ⟨c, d⟩ := q
    simp⟩
theorem Good.shaped (g : Good e n) (h : n ≤ 64) (x : α) : SeqAt.shaped (e x) = true := by
  unfold SeqAt.shaped
  rw [g.lay x, decide_eq_true (Nat.le_trans (g.dep x) h)]
  rfl
/-- two things compared -/
theorem eqE {K : PySem.W.Frag} {H : Hp} {v u : V} {x y : α} {Q : VK} (g : Good e n) (hn : n ≤ 64) (h1 : Dp K H v (e x)) (h2 : Dp K H u (e y)) (q : Q (.bl (decide (x = y))) H) : rEqD K v u H Q :=
  ⟨_, _, h1, h2, g.shaped hn x, g.shaped hn y, by rw [g.eqv]; exact q⟩
theorem neE {K : PySem.W.Frag} {H : Hp} {v u : V} {x y : α} {Q : VK} (g : Good e n) (hn : n ≤ 64) (h1 : Dp K H v (e x)) (h2 : Dp K H u (e y)) (q : Q (.bl (!decide (x = y))) H) : rNeD K v u H Q :=
  ⟨_, _, h1, h2, g.shaped hn x, g.shaped hn y, by rw [g.eqv]; exact q⟩
end
theorem dpI {K : PySem.W.Frag} {H : Hp} : ∀ (ns : List Int), DpAll K H (ns.map V.int) (ns.map PyData.int)
  | [] => .nil
  | n :: ns => .cons (.int n) (dpI ns)
/-- a list of ints -/
theorem dpL {K : PySem.W.Frag} {H : Hp} {a : Addr} {ns : List Int} (h : SqL K H a (ns.map V.int)) : Dp K H (.ref a) (eL PyData.int ns) := .lst h (dpI ns)
theorem dpT {K : PySem.W.Frag} {H : Hp} {a : Addr} {ns : List Int} (h : SqT K H a (ns.map V.int)) : Dp K H (.ref a) (eT PyData.int ns) := .tup h (dpI ns)
/-- lists of ints compared -/
theorem eqI_ {K : PySem.W.Frag} {H : Hp} {a b : Addr} {xs ys : List Int} {Q : VK} (h1 : SqL K H a (xs.map V.int)) (h2 : SqL K H b (ys.map V.int)) (q : Q (.bl (decide (xs = ys))) H) : rEqD K (.ref a) (.ref b) H Q := eqE (goodL goodI) (by decide) (dpL h1) (dpL h2) q
theorem neI_ {K : PySem.W.Frag} {H : Hp} {a b : Addr} {xs ys : List Int} {Q : VK} (h1 : SqL K H a (xs.map V.int)) (h2 : SqL K H b (ys.map V.int)) (q : Q (.bl (!decide (xs = ys))) H) : rNeD K (.ref a) (.ref b) H Q := neE (goodL goodI) (by decide) (dpL h1) (dpL h2) q
/-! ### new objects, the heap behind them by a letter -/
section
variable {X : Cx} {es : List Expr} {t : TA} {pos : Pos}
theorem pe_weak {e : Expr} {t t' : TE} (h : PE X e t) (w : ∀ σ H Q, t' σ H Q → t σ H Q) : PE X e t' := ⟨fun pins s σ H Q I q => h.run pins s σ H Q I (w σ H Q q)⟩
def tCutA (t : TA) : TA := fun σ H Q => ∃ M : List V → Hp → Prop, t σ H M ∧ ∀ vs H', M vs H' → Q vs H'
theorem pa_cut (h : PA X es t) : PA X es (tCutA t) := ⟨fun pos pins s σ H Q I ⟨M, hm, hq⟩ => thn (h.run pos pins s σ H M I hm) fun us s1 ⟨xs, H1, I1, r, q⟩ => ⟨xs, H1, I1, r, hq xs H1 q⟩⟩
/-- a new thing o, at any free place of any heap that keeps H -/
def New (o : HO) (H : Hp) (Q : VK) : Prop := ∀ p H', H p = none → Ex H H' → H' p = some o → Q (.ref p) H'
theorem New.go {o : HO} {H : Hp} {Q : VK} (k : New o H Q) (p : Addr) (hp : H p = none) : Q (.ref p) (upd H p o) := k p _ hp (Evl.Ex.new hp) upd_same
def tLstG (t : TA) : TE := fun σ H Q => t σ H fun xs H1 => xs.length ≤ sizeLine ∧ New (.lst xs) H1 Q
def tTupG (t : TA) : TE := fun σ H Q => t σ H fun xs H1 => xs.length ≤ sizeLine ∧ New (.tup xs) H1 Q
theorem pe_lstG (h : PA X es t) : PE X (.List es pos) (tLstG t) := pe_weak (pe_lst (pa_cut h)) fun σ H Q q => ⟨_, q, fun _ _ z => ⟨z.1, fun p hp => z.2.go p hp⟩⟩
theorem pe_tupG {x1} (h : PA X es t) : PE X (.Tuple es x1 pos) (tTupG t) := pe_weak (pe_tup (pa_cut h)) fun σ H Q q => ⟨_, q, fun _ _ z => ⟨z.1, fun p hp => z.2.go p hp⟩⟩
def rCatG : R2 := fun x y H Q => ∃ l b xs zs, x = .ref l ∧ y = .ref b ∧ H l = some (.lst xs) ∧ H b = some (.lst zs) ∧ xs.length + zs.length ≤ sizeLine ∧ New (.lst (xs ++ zs)) H Q
theorem op_catG : OpR X (binaryOp .Add) rCatG := fun pins s σ H x y v u Q I rx ry ⟨l, b, xs, zs, h1, h2, h3, h4, h5, k⟩ => op_cat pins s σ H x y v u Q I rx ry ⟨l, b, xs, zs, h1, h2, h3, h4, h5, fun p hp => k.go p hp⟩
def rRepG : R2 := fun x y H Q => ∃ l k xs, x = .ref l ∧ y = .int k ∧ H l = some (.lst xs) ∧ -(2 ^ 63) ≤ k ∧ k < 2 ^ 63 ∧ xs.length * k.toNat ≤ sizeLine ∧ New (.lst (List.replicate k.toNat xs).flatten) H Q
theorem op_repG : OpR X (binaryOp .Mult) rRepG := fun pins s σ H x y v u Q I rx ry ⟨l, k, xs, h1, h2, h3, h4, h5, h6, z⟩ => op_rep pins s σ H x y v u Q I rx ry ⟨l, k, xs, h1, h2, h3, h4, h5, h6, fun p hp => z.go p hp⟩
def rSlG (K : PySem.W.Frag) : V → Option Int → Option Int → Hp → VK → Prop := fun x lo hi H Q => ∃ a xs, x = .ref a ∧ SqL K H a xs ∧ New (.lst (cutV xs lo hi)) H Q
theorem sl_listG : SlR X (rSlG X.K) := fun pins s σ H x v vl vu lo hi sl Q I rx hs pl pu ⟨a, xs, h1, h2, k⟩ => sl_list pins s σ H x v vl vu lo hi sl Q I rx hs pl pu ⟨a, xs, h1, h2, fun p hp => k.go p hp⟩
def rListG (K : PySem.W.Frag) : List V → Hp → VK → Prop := fun xs H Q => ∃ p ys, xs = [.ref p] ∧ (SqL K H p ys ∨ SqT K H p ys) ∧ New (.lst ys) H Q
theorem call_listG : CallR X (.type "list") (rListG X.K) := fun pins s σ H xs us Q I r ⟨p, ys, h1, h2, k⟩ => call_list_of pins s σ H xs us Q I r ⟨p, ys, h1, h2, fun p hp => k.go p hp⟩
def rTupleG (K : PySem.W.Frag) : List V → Hp → VK → Prop := fun xs H Q => ∃ p ys, xs = [.ref p] ∧ SqL K H p ys ∧ New (.tup ys) H Q
theorem call_tupleG : CallR X (.type "tuple") (rTupleG X.K) := fun pins s σ H xs us Q I r ⟨p, ys, h1, h2, k⟩ => call_tuple_of pins s σ H xs us Q I r ⟨p, ys, h1, .inl ⟨h2, fun p hp => k.go p hp⟩⟩
def rSortedG (K : PySem.W.Frag) : List V → Hp → VK → Prop := fun vs H Q => ∃ (a : Addr) (ns : List Int), vs = [V.ref a] ∧ SqL K H a (ns.map V.int) ∧ ∀ ns' : List Int, ns'.Perm ns → ns'.Pairwise (· ≤ ·) → New (.lst (ns'.map V.int)) H Q
theorem cr_sortedG : CallR X (.builtin "sorted") (rSortedG X.K) := fun pins s σ H xs us Q I r ⟨a, ns, h1, h2, k⟩ => cr_sortedI pins s σ H xs us Q I r ⟨a, ns, h1, h2, fun ns' p h3 h4 hp => (k ns' h3 h4).go p hp⟩
end
/-! ### slices -/
theorem cut_to (xs : List V) (n : Nat) : cutV xs none (some (n : Int)) = xs.take n := by
  unfold cutV
  rw [HT.sIx_none, HT.sIx_nat, List.drop_zero, Nat.sub_zero]
  by_cases h : n ≤ xs.length
  · rw [Nat.min_eq_left h]
  · rw [Nat.min_eq_right (by omega), List.take_of_length_le (Nat.le_refl _), List.take_of_length_le (by omega)]
theorem cut_from (xs : List V) (n : Nat) : cutV xs (some (n : Int)) none = xs.drop n := by
  unfold cutV
  rw [HT.sIx_none, HT.sIx_nat]
  by_cases h : n ≤ xs.length
  · rw [Nat.min_eq_left h, List.take_of_length_le (by rw [List.length_drop]; exact Nat.le_refl _)]
  · rw [Nat.min_eq_right (by omega), List.drop_eq_nil_of_le (Nat.le_refl _), List.drop_eq_nil_of_le (by omega)]
    exact List.take_nil
/-! ### ways that come together -/
section
variable {X : Cx}
def tCutE (te : TE) : TE := fun σ H Q => ∃ M : V → Hp → Prop, te σ H M ∧ ∀ v H', M v H' → Q v H'
def tCutT (tt : TT) : TT := fun σ H Q => ∃ M : Bool → Hp → Prop, tt σ H M ∧ ∀ b H', M b H' → Q b H'
def tCutS (t : TS) : TS := fun D σ H => ∃ M : L2.St → Hp → Prop, t { D with nx := M } σ H ∧ ∀ σ' H', M σ' H' → D.nx σ' H'
theorem pe_cut {e : Expr} {te : TE} (h : PE X e te) : PE X e (tCutE te) := ⟨fun pins s σ H Q I ⟨M, hm, hq⟩ => thn (h.run pins s σ H M I hm) fun v s1 ⟨x, H1, I1, r, q⟩ => ⟨x, H1, I1, r, hq x H1 q⟩⟩
theorem pt_cut {e : Expr} {tt : TT} (h : PT X e tt) : PT X e (tCutT tt) := ⟨fun pins s σ H Q I ⟨M, hm, hq⟩ => thn (h.run pins s σ H M I hm) fun b s1 ⟨H1, I1, q⟩ => ⟨H1, I1, hq b H1 q⟩⟩
theorem ps_cut {st : Stmt} {t : TS} (h : PS X st t) : PS X st (tCutS t) := by
  refine ⟨fun pins s σ H D I ⟨M, hm, hq⟩ => thn (h.run pins s σ H { D with nx := M } I hm) fun f s1 q => ?_⟩
  cases f with
  | next =>
    obtain ⟨σ', H', I', q⟩ := q
    exact ⟨σ', H', I', hq σ' H' q⟩
  | ret v => exact q
  | brk => exact q
  | cont => exact q
end
theorem ifF {c : Bool} {A B : Prop} (h : c = false) (k : B) : if c = true then A else B := by
  rw [h]
  exact iteF k
theorem ifT {c : Bool} {A B : Prop} (h : c = true) (k : A) : if c = true then A else B := by
  rw [h]
  exact iteT k
theorem ifB {c : Bool} {A B : Prop} (h1 : c = true → A) (h2 : c = false → B) : if c = true then A else B := by
  cases c with
  | true => exact iteT (h1 rfl)
  | false => exact iteF (h2 rfl)
/-! ### comprehensions without tests, the element without a trace -/
theorem lc_mapL {K : PySem.W.Frag} {a : Addr} {xs ys : List V} {j : Nat} {te : TE} {vs : List Nat} {σ : L2.St} {H1 : Hp} {D : Addr} {Qd : Hp → Prop} (hx : SqL K H1 a xs) (hD : H1 D = none) (hl : ys.length = xs.length) (hz : xs.length ≤ sizeLine)
    (hw : ∀ x, wipe ((wipe σ vs).set j (some x)) vs = wipe σ vs)
    (he : ∀ (i : Nat) x y H', Ex H1 H' → xs[i]? = some x → ys[i]? = some y → ∀ R : VK, (∀ H2, Ex H' H2 → R y H2) → te ((wipe σ vs).set j (some x)) H' R)
    (k : ∀ H', Ex H1 H' → H' D = some (.lst ys) → Qd H') :
    ∃ W : Nat → Nat → Hp → Prop, (∃ m, W 0 m (upd H1 D (.lst []))) ∧ ∀ i m H, W i m H →
      ((Itl K a).stop i H ∧ Qd H) ∨ ((Itl K a).go i H ∧ ∃ Nx : Hp → Prop, (∀ H', Nx H' → ∃ m', m' < m ∧ W (i + 1) m' H') ∧ ∀ x H', (Itl K a).yld i H x H' → gName j x (wipe σ vs) H' fun σ2 H2 => wipe σ2 vs = wipe σ vs ∧ tYes σ2 H2 fun b H3 =>
        if b = true then te σ2 H3 fun y H4 => ∃ acc, H4 D = some (.lst acc) ∧ acc.length < sizeLine ∧ Nx (upd H4 D (.lst (acc ++ [y]))) else Nx H3) := by
  refine lc_list (xs := xs) (fun i H' => Ex H1 H' ∧ H' D = some (.lst (ys.take i))) ⟨Evl.Ex.new hD, upd_same⟩ (fun i H' _ p => Evl.ex_l p.1 hx) (fun i x H' hi p => ?_) (fun H' p => k H' p.1 ?_)
  · have hi' : i < xs.length := (List.getElem?_eq_some_iff.mp hi).1
    have hy : ys[i]? = some (ys[i]'(by omega)) := List.getElem?_eq_getElem (by omega)
    refine ⟨hw x, ?_⟩
    show te ((wipe σ vs).set j (some x)) H' _
    refine he i x _ H' p.1 hi hy _ fun H2 e2 => ⟨ys.take i, e2 _ _ p.2, ?_, ?_⟩
    · rw [List.length_take]
      omega
    · refine ⟨Evl.Ex.mut (p.1.trans e2) hD, ?_⟩
      rw [upd_same, List.take_add_one, hy]
      rfl
  · have := p.2
    rw [List.take_of_length_le (by omega)] at this
    exact this
end My
set_option Elab.async false
set_option linter.all false
set_option maxRecDepth 100000
set_option maxHeartbeats 4000000
/-! Own errors whose __init__ says super().__init__("..") and keeps one field. -/
namespace My
open PySem PySem.Spec PyProof.Rows L2 NdefX
/-! ### the built-in __init__ bound to a new error, called -/
section
variable {prog : Program} {w : World} {A : Around} {E : Value → Shared → Prop} {h : Heap} {g : Array GenState} {d : Drawn} {t : Nat} {os : OsState}
variable {nm q : Str} {C N : Addr} {bs bm : List Value} {hdct : Bool} {sn : List Str} {sub : List Value} {ab : Bool} {col : Option Bool} {dd : Option Addr} {k0 k1 k2 k3 k5 : Option Value}
theorem call_mwV {u e t0 : Addr} {rest : List Value} {Q : Value → Shared → Prop}
    (hC : h.get? C = some (excClassObj nm q C N bs bm hdct sn sub ab col dd k0 k1 k2 k3 k5 "ValueError.__new__")) (he : h.get? e = some (HandSPX.excO C t0)) (hu : h.get? u = some (PySem.W.kxs_mw "ValueError.__init__" e)) (hrest : rest.length ≤ sizeLine)
    (hq : ∀ h' t1, (∀ b o, b ≠ e → h.get? b = some o → h'.get? b = some o) → h'.get? e = some (HandSPX.excO C t1) → Q .none ⟨h', g, d, t, os⟩) :
    wpAny (model prog w) A (call (.ref u) rest) Q E ⟨h, g, d, t, os⟩ := by
  refine wpAny_call (codeAny_of_tree ?_)
  show wpAny _ A.in1 (callAny (.ref u) ⟨rest, []⟩) _ _ _
  simp only [callAny]
  refine wpAny_bind (wpAny_load hu ?_)
  simp only [PySem.W.kxs_mw, show (Value.type "method-wrapper" == Value.type "method" || Value.type "method-wrapper" == Value.type "builtin_function_or_method" || Value.type "method-wrapper" == Value.type "method-wrapper") = true by decide, if_true]
  refine W.KFB.if_so (by decide) ?_
  refine wpAny_bind (ESX.check_bound F.excBase_ValueError hC he rfl ?_)
  refine wpAny_bind (wpAny_pure (wpAny_pure ?_))
  refine ⟨Code.quiet_builtin _ (by decide +kernel), codeAny_builtin F.excBase_ValueError.initEntry ?_⟩
  rw [Around.under_plainId F.excBase_ValueError.init.plain _]
  wp_walk
  refine hq _ h.objs.size (fun b o hb ho => ?_) ?_
  · rw [Heap.get?_update_other _ _ (Ne.symm hb)]
    exact Heap.get?_push_of_some _ ho
  · rw [Heap.get?_update_self _ (Heap.get?_push_of_some _ he) rfl]
    rfl
end
/-- what the written part says of the __init__ and of the class D that holds it -/
structure InitT (P : Program) (K : PySem.W.Frag) (mg : Str → Option Value) (st : Stmt) (qu : Str) (fI cc cda D : Addr) (fd : FuncData) : Prop where
  ex : ∃ (oc : Value) (od : Option Addr) (kV doc pm : Value) (an : Option Addr) (ct : Value) (osl : Array (Option Value)),
    fd = PySem.W.fnX "__init__" qu (defArgs st) (defBody st) (defScope st) [("__class__", cc)] .none kV doc pm an (.ref cda) ct ∧ K.lookup fI = some ⟨oc, od, .func fd, osl⟩
  code : PySem.W.codeIn K (.ref cda) qu = true
  cell : ∃ cl cld csl, K.lookup cc = some ⟨cl, cld, .cell (some (.ref D)), csl⟩
  file : ∃ (ccl : Value) (cdd : Option Addr) (ccs : Array (Option Value)) (vs : Array Value) (fl : Str) (tf : Tok), K.lookup cda = some ⟨ccl, cdd, .fields vs, ccs⟩ ∧ vs[2]? = some (.str fl tf) ∧ ((P.main.file : Str) == fl) = true
  cls : ∃ cdD, PySem.W.clsIn K D = some cdD
  sup : mg "super" = none
  top : (P.main.scope.names.lookup ("super" : Str)).isSome = false
  opq : PySem.W.nsIn K cStatics "thirdparty.any" = some none
/-- what it says of a class C of errors that has this __init__ -/
structure ErrC (K : PySem.W.Frag) (fI D C : Addr) : Prop where
  oex : OexC K C
  init : PySem.W.findIn K (.ref C) "__init__" = some (some (.ref fI))
  tI : PySem.W.typeIn K (.ref fI) = some (.type "function")
  nov : PySem.W.findIn K (.ref C) "value" = some none
  mro : PySem.W.mroIn K C (.ref D) = some true
  sin : PySem.W.ks_superIn K C D "__init__" = some (some (.builtin "ValueError.__init__"))
  sub : PySem.W.subIn K (.ref C) (.type "ValueError") = some true
  xf : XfC K C
/-- the first statement, super().__init__("..") -/
abbrev sSuper (p0 p1 p2 p3 p4 p5 : Pos) (x : Str) (j : Nat) : Stmt := .Expr (.Call (.Attribute (.Call (.Name "super" p0) [] [] p1) "__init__" p2) [.Constant (.str x) j p3] [] p4) p5
abbrev sKeep (p0 p1 p2 p3 : Pos) : Stmt := .Assign [.Attribute (.Name "self" p0) "value" p1] (.Name "value" p2) p3
/-- the promise: the new error at a has, behind it, its dict with the value -/
def spErr (K : PySem.W.Frag) (fI D : Addr) : Sp := fun vs H Q _ => ∃ (a C : Addr) (v : V), vs = [.ref a, v] ∧ ErrC K fI D C ∧ H a = some (exo a C none) ∧
  ∀ dx, H dx = none → dx ≠ a → Q .non (upd (upd H dx (exd dx [("value", v)])) a (exo a C (some dx)))
section
variable {P : Program} {w : World} {K : PySem.W.Frag} {mg : Str → Option Value} {base : Heap} {st : Stmt} {qu : Str} {fI cc cda D : Addr} {fd : FuncData}
theorem super_step {A : Around} {outer : List Env} {s0 : Shared} {H0 : Hp} {E0' : XK} {F : NF} {body : List Stmt} {p0 p1 p2 p3 p4 p5 : Pos} {x : Str} {j : Nat} {a C : Addr} {v : V} {H : Hp} {s : Shared} {ws : List (Option V)} {Q : Flow → Shared → Prop} {N : List Str}
    (T : InitT P K mg st qu fI cc cda D fd) (hF : F = ⟨"__init__", qu, defArgs st, defBody st, defScope st, [("__class__", cc)], cda⟩) (TC : ErrC K fI D C)
    (hks : (defScope st).names.lookup ("super" : Str) = some .globalImplicit) (hkc : (defScope st).names.lookup ("__class__" : Str) = some .free) (hka : (defScope st).names.lookup ("self" : Str) = some .local) (hk : (defScope st).kind = .function)
    (hp : ((defArgs st).posonlyargs ++ (defArgs st).args).head?.map (·.arg) = some ("self" : Str)) (hN : N[0]? = some ("self" : Str))
    {pl : Sem Bool} (hev : ∀ env : Env, eval (.Call (.Attribute (.Call (.Name "super" p0) [] [] p1) "__init__" p2) [.Constant (.str x) j p3] [] p4) env = (do
      let ov ← attributeBase (.Call (.Name "super" p0) [] [] p1) "__init__" env (eval (.Call (.Name "super" p0) [] [] p1) env)
      standAt p2.atName
      let (f, first) ← holding [ov] (getMethod ov "__init__" pl)
      callWith p4 f first (backTo p4 (starEach [.Constant (.str x) j p3] env)) []))
    (I : Inv (ncx CX0 P w K mg base N F fI A outer s0 H0 E0') [] (some (.ref a) :: some v :: ws) H s) (ha : H a = some (exo a C none))
    (h : ∀ s', Inv (ncx CX0 P w K mg base N F fI A outer s0 H0 E0') [] (some (.ref a) :: some v :: ws) H s' → Q .next s') :
    _root_.PySem.wpAt (model P w) (ncx CX0 P w K mg base N F fI A outer s0 H0 E0').A (.func body (ncx CX0 P w K mg base N F fI A outer s0 H0 E0').env) (exec (sSuper p0 p1 p2 p3 p4 p5 x j) (ncx CX0 P w K mg base N F fI A outer s0 H0 E0').env) Q (ncx CX0 P w K mg base N F fI A outer s0 H0 E0').xe s := by
  subst hF
  obtain ⟨oc, od, kV, doc, pm, an, ct, osl, efd, lk⟩ := T.ex
  obtain ⟨cl, cld, csl, hcell⟩ := T.cell
  obtain ⟨ccl, cdd, ccs, vs, fl, tf, hcode, hvs, hfile⟩ := T.file
  obtain ⟨cdD, hD⟩ := T.cls
  obtain ⟨nm, q, N', bs, bm, sn, sub, ab, col, dd, k0, k1, k2, k3, k5, hC, hbm⟩ := TC.oex.cls
  have hcl : PySem.W.clsIn K C = some { name := nm, bases := bs, mro := .ref C :: bm, ns := N', qualname := q, hasDict := true, slotNames := sn, subclasses := sub, abstract := ab, collection := col, hasDel := false } := by unfold PySem.W.clsIn; rw [hC] <;> rfl
  have KX : K.In s.heap := I.kIn
  obtain ⟨ar, har, harg⟩ : ∃ ar, ((defArgs st).posonlyargs ++ (defArgs st).args).head? = some ar ∧ ar.arg = ("self" : Str) := by
    cases e : ((defArgs st).posonlyargs ++ (defArgs st).args).head? with
    | none => rw [e] at hp; cases hp
    | some ar => rw [e] at hp; exact ⟨ar, rfl, Option.some.inj hp⟩
  obtain ⟨oD, hD1, hD2⟩ : ∃ oD, s.heap.get? D = some oD ∧ oD.data = .cls cdD := by
    unfold PySem.W.clsIn at hD
    split at hD
    · rename_i c d cd' sl ho
      cases hD
      exact ⟨_, KX _ _ ho, rfl⟩
    · cases hD
  obtain ⟨t1, hoe⟩ := exo_at I.hok ha
  -- the name self
  obtain ⟨m, hns, hl⟩ := id I.loc
  obtain ⟨u0, ru, lu⟩ := hl 0 "self" (.ref a) hN rfl (.inl hka)
  obtain rfl : u0 = Value.ref a := ru
  have hself : m "self" = some (.ref a) := by
    rcases lu with ⟨_, q⟩ | ⟨q, _⟩
    · exact q
    · have e : (defScope st).names.lookup ("self" : Str) = some .cell ∨ (defScope st).names.lookup ("self" : Str) = some .free := q
      rw [hka] at e
      rcases e with z | z <;> cases z
  obtain ⟨mb, hb1, hb2⟩ := I.mod.blt
  refine ks_wpAt_Expr_any (ks_wpAt_MethodCall ?_ (hev _)) (I.quiet) rfl
  refine ks_wpAt_super_base hks hkc (by decide) rfl (KX _ _ lk) (by rw [efd]) (ar := ar) har rfl (KX _ _ hcode) rfl hvs hfile T.top ?_
  refine PySem.W.ks_loadName_global hk hks (Calls.loadGlobal_builtin (I.mod.glob.keeps I.bk) T.sup (hb1.keeps I.bk) ((hb2 _ (by decide)).trans (by decide +kernel)) ⟨rfl, ?_⟩)
  refine wpAny_loadName_free hk hkc rfl ⟨_, KX _ _ hcell, rfl⟩ ?_
  rw [harg]
  refine wpAny_loadName_local hk hka hns hself ?_
  refine ks_wpAny_isType_cls hD1 hD2 ⟨rfl, ?_⟩
  obtain ⟨hp0, g, d, t, os⟩ := s
  refine ks_wpAny_call_super hD1 hD2 hoe rfl (fun c e => by cases e) (PySem.W.looks_mroIn KX TC.mro) (fun h1 e1 k1' => ?_)
  have I1 : Inv (ncx CX0 P w K mg base N ⟨"__init__", qu, defArgs st, defBody st, defScope st, [("__class__", cc)], cda⟩ fI A outer s0 H0 E0') [] (some (.ref a) :: some v :: ws) H ⟨h1, g, d, t, os⟩ := I.kept (h' := h1) (t' := t) k1'
  have KX1 : K.In h1 := I1.kIn
  have hoe1 := k1' _ _ hoe
  have hnaC : a ≠ C := by
    rintro rfl
    have z := KX _ _ hC
    rw [hoe] at z
    cases z
  have hI1 : PySem.W.Looks (model P w) h1 (isInstance (.ref a) (.type "ValueError")) true := (show PySem.W.InstAt h1 a _ C none from ⟨hoe1, rfl, rfl, trivial⟩).type.andThen (PySem.W.looks_subIn KX1 TC.sub)
  have hsin := TC.sin
  unfold PySem.W.ks_superIn at hsin
  rw [hcl, Option.bind_some] at hsin
  refine PySem.W.kxs_getMethod PySem.W.kxs_ValueError e1 (PySem.W.looks_opaque KX1 T.opq) (l₀ := .ref C :: bm) ?_ rfl KX1 hsin hI1 hnaC (by decide) ?_
  · exact fun A Q E s k q => wpAny_bind ((PySem.W.looks_clsIn KX1 hcl) A _ E s k (wpAny_pure q))
  have I2 : Inv (ncx CX0 P w K mg base N ⟨"__init__", qu, defArgs st, defBody st, defScope st, [("__class__", cc)], cda⟩ fI A outer s0 H0 E0') [] (some (.ref a) :: some v :: ws) H ⟨h1.push (PySem.W.kxs_mw "ValueError.__init__" a), g, d, t + 1, os⟩ := I1.kept (t' := t + 1) fun b o e => Heap.get?_push_of_some _ e
  have hu2 : (h1.push (PySem.W.kxs_mw "ValueError.__init__" a)).get? h1.objs.size = some (PySem.W.kxs_mw "ValueError.__init__" a) := Heap.get?_push_at rfl rfl
  have hoe2 : (h1.push (PySem.W.kxs_mw "ValueError.__init__" a)).get? a = _ := Heap.get?_push_of_some _ hoe1
  show wpAny _ _ (callWith p4 (.ref h1.objs.size) [] (backTo p4 (starEach [.Constant (.str x) j p3] _)) []) _ _ _
  refine PySem.W.kxs_callWith (i := "ValueError.__init__") (x := a) rfl (PySem.Calls.evalArgs_plain ?_)
  refine args_cons (Calls.Constant_str (args_nil ⟨hu2, ?_⟩)) rfl
  have I3 := I2.tok (t + 1 + 1)
  refine call_mwV (KX1.keeps (fun b o e => Heap.get?_push_of_some _ e) _ _ hC) hoe2 hu2 (by show 1 ≤ sizeLine; decide) (fun h' t' k he => ?_)
  have J := I3.write (t' := t + 1 + 1) (x := a) (e := a) (o := exo a C none) (by rw [ha]; exact True.intro) (.inl rfl) k ⟨_, he⟩ (exo_ok he)
  have eu : upd H a (exo a C none) = H := by
    funext b
    by_cases hb : b = a
    · rw [hb, upd_same, ha]
    · rw [upd_ne hb]
  rw [eu] at J
  exact h _ J
theorem ok_err {p0 p1 p2 p3 p4 p5 q0 q1 q2 q3 : Pos} {x : Str} {j : Nat} {pl : Sem Bool} (T : InitT P K mg st qu fI cc cda D fd) (S : NScope ["self", "value", "__class__"] ["self", "value"] ["__class__"] (defScope st))
    (hbd : defBody st = [sSuper p0 p1 p2 p3 p4 p5 x j, sKeep q0 q1 q2 q3]) (hks : (defScope st).names.lookup ("super" : Str) = some .globalImplicit)
    (hp : ((defArgs st).posonlyargs ++ (defArgs st).args).head?.map (·.arg) = some ("self" : Str))
    (hev : ∀ env : Env, eval (.Call (.Attribute (.Call (.Name "super" p0) [] [] p1) "__init__" p2) [.Constant (.str x) j p3] [] p4) env = (do
      let ov ← attributeBase (.Call (.Name "super" p0) [] [] p1) "__init__" env (eval (.Call (.Name "super" p0) [] [] p1) env)
      standAt p2.atName
      let (f, first) ← holding [ov] (getMethod ov "__init__" pl)
      callWith p4 f first (backTo p4 (starEach [.Constant (.str x) j p3] env)) [])) : FnOk P w K mg base CX0 1 fI fd ["self", "value"] (spErr K fI D) := by
  refine ⟨fun vs H Q E h => by obtain ⟨a, C, v, rfl, _⟩ := h; rfl, fun A outer s H args us vs Q E hr e0 hb r hsp => ?_⟩
  have KX : K.In s.heap := e0.mod.kin.keeps fun b o e => (e0.bs b o e).1
  have lim : s.heap.NoLimit := e0.mod.nolimit.keeps fun b o e => (e0.bs b o e).1
  obtain ⟨oc, od, kV, doc, pm, an, ct, osl, efd, lk⟩ := id T.ex
  obtain ⟨cl, cld, csl, hcell⟩ := T.cell
  obtain ⟨a, C, v, ev, TC, ha, k⟩ := hsp
  subst ev
  have hl : [V.ref a, v].length = (["self", "value"] : List Str).length := rfl
  have hC : CellsAt [(("__class__" : Str), cc)] ["__class__"] [some (.ref D)] s.heap H := by
    have hb := e0.mod.kin _ _ hcell
    have hs := e0.bs _ _ hb
    have key : ∀ {y : Str} {c : Addr}, ([(("__class__" : Str), cc)] : List (Str × Addr)).lookup y = some c → c = cc ∧ y = "__class__" := fun {y c} e => by
      have z := PySem.mem_of_lookup e
      have z' : (y, c) = (("__class__" : Str), cc) := by simpa using z
      exact ⟨congrArg Prod.snd z', congrArg Prod.fst z'⟩
    refine ⟨rfl, fun y c e => ?_, fun y z c e1 e2 => (key e1).2.trans (key e2).2.symm, fun i y e => ?_⟩
    · obtain ⟨rfl, rfl⟩ := key e
      exact ⟨hs.2, _, _, hs.1, rfl⟩
    · cases i with
      | zero =>
        have e' : ("__class__" : Str) = y := Option.some.inj e
        subst e'
        refine ⟨cc, by simp [List.lookup], fun u hu => ?_⟩
        have hu' : some (some (V.ref D)) = some (some u) := hu
        cases hu'
        exact ⟨.ref D, rfl, _, hs.1, rfl⟩
      | succ i => simp at e
  have hfd : (K.lookup fI) = some ⟨oc, od, .func (PySem.W.fnX "__init__" qu (defArgs st) (defBody st) (defScope st) [("__class__", cc)] .none kV doc pm an (.ref cda) ct), osl⟩ := by rw [← efd]; exact lk
  refine codeAny_call_function hr.depth (KX _ _ hfd) rfl S.co S.gen rfl (PySem.W.codeRec_of KX T.code) ?_
  have hb' := hb
  rw [efd] at hb'
  refine hb' _ _ _ _ ?_
  refine wpAny_newFunctionEnv S.nocell (fun ⟨n, _⟩ hy => S.par n (List.of_mem_zip hy).1) (fun h₁ hns hsb => ⟨lim.fresh _ hsb, ?_⟩) S.kind
  have kp : ∀ b o, s.heap.get? b = some o → h₁.get? b = some o := fun b o e => hsb.extBut b o (Nat.ne_of_lt (Heap.lt_size e)) (Heap.get?_push_of_some _ e)
  have I : Inv (ncx CX0 P w K mg base ["self", "value", "__class__"] ⟨"__init__", qu, defArgs st, defBody st, defScope st, [("__class__", cc)], cda⟩ fI A outer s H E) [] (startF ["self", "value", "__class__"] [V.ref a, v] [some (.ref D)]) H { s with heap := h₁, toks := s.toks + ((["self", "value"] : List Str).zip us).length } :=
    inv_startN (F := ⟨"__init__", qu, defArgs st, defBody st, defScope st, [("__class__", cc)], cda⟩) S hr.hd e0 hl r hC hns kp
  refine ks_codeAny_funcAt (env := (ncx CX0 P w K mg base ["self", "value", "__class__"] ⟨"__init__", qu, defArgs st, defBody st, defScope st, [("__class__", cc)], cda⟩ fI A outer s H E).env) (body := defBody st) ?_
  rw [show execs (defBody st) = execs [sSuper p0 p1 p2 p3 p4 p5 x j, sKeep q0 q1 q2 q3] from congrArg execs hbd]
  refine ks_wpAt_execs_cons (super_step T rfl TC hks (S.frk _ (by simp)) (S.par _ (by simp)) S.kind hp rfl hev I ha fun s' I' => ?_)
  have hpst : PSs (ncx CX0 P w K mg base ["self", "value", "__class__"] ⟨"__init__", qu, defArgs st, defBody st, defScope st, [("__class__", cc)], cda⟩ fI A outer s H E) [sKeep q0 q1 q2 q3] _ :=
    pss_one (ps_ost (pe_var (i := 0) rfl (.inl (S.par _ (by simp)))) (pe_var (i := 1) rfl (.inl (S.par _ (by simp)))))
  have run := hpst.run [] s' _ H { nx := fun _ H' => Q .non H', rt := Q } I' ⟨_, rfl, _, rfl, a, C, rfl, TC.oex, TC.nov, .inl ⟨ha, k⟩⟩
  refine wpAt_of_wpAny (wpAny_mono run (fun fl s2 hs => ?_) fun e s2 hs => hs)
  have fin : ∀ {σ' : L2.St} {H' : Hp} {v : V} {u : Value}, Inv (ncx CX0 P w K mg base ["self", "value", "__class__"] ⟨"__init__", qu, defArgs st, defBody st, defScope st, [("__class__", cc)], cda⟩ fI A outer s H E) [] σ' H' s2 → L2.RelV v u → Q v H' → CE outer P w H s Q u s2 :=
    fun {σ' H' v u} J rv q => ⟨v, H', J.os, J.bare, J.base, J.hok, rv, q⟩
  cases fl with
  | ret u =>
    obtain ⟨v, σ', H', J, rv, q⟩ := hs
    exact fin J rv q
  | next =>
    obtain ⟨σ', H', J, q⟩ := hs
    exact fin (v := V.non) (u := Value.none) J rfl q
  | brk =>
    obtain ⟨_, _, _, q⟩ := hs
    exact False.elim q
  | cont =>
    obtain ⟨_, _, _, q⟩ := hs
    exact False.elim q
end
/-! ### raise X(e) -/
/-- an error of the class at C with the value v is what is wanted -/
def Raised (C : Addr) (v : V) (H : Hp) (E : XK) : Prop := ∀ d H', H d = none → Ex H H' → H' d = some (.xd [("value", v)]) → E (.ref C) (some d) H'
def tErr (C : Addr) (ta : TA) : L2.St → Hp → XK → Prop := fun σ H Q => ta σ H fun vs H1 => ∃ v, vs = [v] ∧ Raised C v H1 Q
section
variable {X : Cx} {K : PySem.W.Frag} {fI D C : Addr} {fd : FuncData} {x : Str} {p pos : Pos} {e : Expr} {ta : TA}
theorem pmk_err (F : FnOk X.prog X.w X.K X.mg X.base CX0 1 fI fd ["self", "value"] (spErr X.K fI D)) (hb : Binds X.K fd ["self", "value"] []) (TC : ErrC X.K fI D C) (hr : Room 2 X.A) (hg : Gl X x) (hm : X.mg x = some (.ref C)) (ha : PA X [e] ta)
    (hdb : (x == ("__debug__" : Str)) = false := by decide) (he : starEach [e] X.env = (false, eval e X.env) :: starEach [] X.env := by rfl) (hpl : (backTo pos (starEach [] X.env)).any (·.1) = false := by rfl) :
    PMk X (.Call (.Name x p) [e] [] pos) (tErr C ta) := fun pins s σ H Q I h => by
  refine pmk_oex (sp := spErr X.K fI D) (dvs := []) TC.oex TC.init TC.tI F hr hb .nil pass0 hg hm (pa_cut ha) hdb he hpl pins s σ H Q I ⟨_, h, fun vs H1 z => ?_⟩
  obtain ⟨v, rfl, k⟩ := z
  refine ⟨by show 1 ≤ 1000; decide, fun a hn => ⟨a, C, v, rfl, TC, upd_same, fun dx hdx ne => ⟨rfl, dx, [("value", v)], upd_same, by rw [upd_ne ne, upd_same], ?_, ?_⟩⟩⟩
  · rw [upd_ne ne] at hdx
    exact hdx
  · rw [upd_ne ne] at hdx
    refine k dx _ hdx (fun b o hb => ?_) upd_same
    have n1 := ne_of_none hb hdx
    have n2 := ne_of_none hb hn
    rw [upd_ne n1, del_ne n2, upd_ne n2, upd_ne n1, upd_ne n2]
    exact hb
end
/-- calls of a def that may raise, in one that may -/
theorem passX {P : Program} {w : World} {K : PySem.W.Frag} {mg : Str → Option Value} {base : Heap} {N : List Str} {qual : Str} {scope : Scope} {f : Addr} {cd : Value} {A : Around} {outer : List Env} {s : Shared} {H : Hp} {E : XK} :
    Passes (L2.CX P w) (cxOf (L2.CX P w) P w K mg base N qual scope f cd A outer s H E) E := passes_call (X := cxOf (L2.CX P w) P w K mg base N qual scope f cd A outer s H E) (takes_of rfl rfl rfl rfl) (fun _ _ _ _ h => h)
/-! ### what the head's facts give -/
theorem along_ve (K : PySem.W.Frag) : PySem.W.alongIn K "__init__" PySem.HandSPX.veTail = some (some (.builtin "ValueError.__init__")) := by kernel_rfl
section
variable {K : PySem.W.Frag} {nm q : Str} {C D N : Addr} {bs : List Value} {sn : List Str} {sub : List Value} {ab : Bool} {col : Option Bool} {dd : Option Addr} {k0 k1 k2 k3 k5 : Option Value}
theorem sup_self (h : K.lookup C = some (excClassObj nm q C N bs PySem.HandSPX.veTail true sn sub ab col dd k0 k1 k2 k3 k5 "ValueError.__new__")) (e : C = D) : PySem.W.ks_superIn K C D "__init__" = some (some (.builtin "ValueError.__init__")) := by
  subst e
  unfold PySem.W.ks_superIn PySem.W.clsIn
  rw [h]
  show PySem.W.alongIn K "__init__" (((Value.ref C :: PySem.HandSPX.veTail).dropWhile (· != .ref C)).drop 1) = _
  rw [ESX.drop_own]
  exact along_ve K
theorem sup_child (h : K.lookup C = some (excClassObj nm q C N bs (.ref D :: PySem.HandSPX.veTail) true sn sub ab col dd k0 k1 k2 k3 k5 "ValueError.__new__")) (e : (C == D) = false) : PySem.W.ks_superIn K C D "__init__" = some (some (.builtin "ValueError.__init__")) := by
  unfold PySem.W.ks_superIn PySem.W.clsIn
  rw [h]
  show PySem.W.alongIn K "__init__" (((Value.ref C :: Value.ref D :: PySem.HandSPX.veTail).dropWhile (· != .ref D)).drop 1) = _
  have ne : ((Value.ref C : Value) != .ref D) = true := by
    have : C ≠ D := by simpa using e
    simp [this]
  rw [List.dropWhile_cons, if_pos ne, ESX.drop_own]
  exact along_ve K
theorem exm_gen {S S' : Addr} {b : Bool} (h1 : PySem.W.subIn K (.ref S') (.type "BaseException") = some true) (h2 : PySem.W.isClsIn K S' = true) (h3 : PySem.W.typeIn K (.ref S') = some (.type "type")) (h4 : PySem.W.subIn K (.ref S) (.ref S') = some b) :
    PySem.W.exmOne K (.ref S) (.ref S') = some b := by
  have e1 : (PySem.W.subIn K (.ref S') (.type "BaseException") == some true) = true := by rw [h1] <;> rfl
  have e2 : ((PySem.W.clsIn K S').isSome && PySem.W.typeIn K (.ref S') == some (.type "type")) = true := by
    have h2' : (PySem.W.clsIn K S').isSome = true := h2
    rw [h2', h3] <;> rfl
  show (if (PySem.W.subIn K (.ref S') (.type "BaseException") == some true) = true then (if ((PySem.W.clsIn K S').isSome && PySem.W.typeIn K (.ref S') == some (.type "type")) = true then PySem.W.subIn K (.ref S) (.ref S') else none) else none) = some b
  rw [if_pos e1, if_pos e2]
  exact h4
end
end My
set_option Elab.async false
set_option linter.all false
set_option maxRecDepth 100000
set_option maxHeartbeats 4000000
/-! Further rules: sum of a tuple, len of a range, calls by keywords of a def that may raise. -/
namespace My
open PySem PySem.Spec PyProof.Rows L2
section
variable {prog : Program} {w : World} {A : Around} {E : Value → Shared → Prop} {s : Shared} {l : Addr} {its : List Value} {ns : List Int} {Q : Value → Shared → Prop}
theorem sum_tupRaw (hh : A.handled = none) (hl : s.heap.IsTuple l its.toArray) (hi : IntsAre its ns)
    (h : ∀ h' tk t', (∀ b o, s.heap.get? b = some o → h'.get? b = some o) → Q (.int ns.sum t') { s with heap := h', toks := tk }) : wpAny (model prog w) A (call (.builtin "sum") [.ref l]) Q E s := by
  obtain ⟨xs, e⟩ := hi.allInts.items
  have hn : numsOf (intItems xs).toList = ns := by rw [← e]; exact hi.numsOf
  rw [nums_intItems] at hn
  rw [e] at hl
  have hlt : l < s.heap.objs.size := by obtain ⟨_, e, _⟩ := hl; exact Heap.lt_size e
  refine call_sum_walkG (wpAny_pyIter_tuple hl ?_)
  refine ⟨_, _, _, _, _, _, numAt xs, rfl, Walks.tuple (A := A.in1) hh _ l (Nat.ne_of_lt hlt) (intItems xs), ⟨⟨_, Heap.get?_push_size _ rfl, rfl, rfl⟩, ?_⟩, (fun b hb => ?_), (fun _ _ => intItems_at), fun h' tk t' hk => ?_⟩
  · obtain ⟨o, e1, e2⟩ := hl
    exact ⟨o, Heap.get?_push_of_some _ e1, e2⟩
  · show b < (s.heap.push _).objs.size
    rw [Heap.size_push]
    rcases List.mem_cons.mp hb with rfl | hb
    · exact Nat.lt_succ_self _
    · rcases List.mem_cons.mp hb with rfl | hb
      · exact Nat.lt_succ_of_lt hlt
      · cases hb
  · have := h h' tk t' (fun b o e => hk b o (fun hm => by
      have z : b = s.heap.objs.size := by simpa using hm
      exact Nat.ne_of_lt (Heap.lt_size e) z) (Heap.get?_push_of_some _ e))
    have e2 : preSum (numAt xs) (intItems xs).size = ns.sum := by
      rw [preSum_eq, List.take_of_length_le (by simp [intItems]), hn]
    rw [e2]
    exact this
end
section
variable {X : Cx}
def rSumT (K : PySem.W.Frag) : List V → Hp → VK → Prop := fun vs H Q => ∃ (a : Addr) (ns : List Int), vs = [V.ref a] ∧ SqT K H a (ns.map V.int) ∧ Q (.int ns.sum) H
theorem cr_sumT (hc : X.calm = true) : CallR X (.builtin "sum") (rSumT X.K) := by
  intro pins s σ H vs us Q I r h
  obtain ⟨a, ns, rfl, hs, q⟩ := h
  obtain ⟨its, rv, hl, _⟩ := I.tuple hs
  rw [Vals.ref1 r]
  exact sum_tupRaw (I.ok.hd hc) hl rv.ints fun h' tk t' hk => ⟨.int _, H, I.kept hk, ⟨_, rfl⟩, q⟩
/-- len(range(a, b)) -/
def rLenR : List V → Hp → VK → Prop := fun vs H Q => ∃ (p : Addr) (lo hi : Int), vs = [V.ref p] ∧ H p = some (.rng lo hi) ∧ hi - lo < 2 ^ 62 ∧ Q (.int (if lo < hi then hi - lo else 0)) H
theorem call_lenR : CallR X (.builtin "len") rLenR := by
  intro pins s σ H vs us Q I r h
  obtain ⟨p, lo, hi, rfl, hp, hz, q⟩ := h
  rw [Vals.ref1 r]
  obtain ⟨t, u, v, ho⟩ := (show ObjOk X.prog X.w H s.heap p (.rng lo hi) from I.hok p _ hp)
  have e : ((if lo < hi then hi - lo else 0 : Int)) = (((if lo < hi then hi - lo else 0 : Int)).toNat : Int) := by split <;> omega
  refine call_len_range (n := ((if lo < hi then hi - lo else 0 : Int)).toNat) (a := lo) (b := hi) (c := 1) ho ?_ ?_ ?_
  · rw [rangeSize_one, ← e]
  · rw [← e]
    split <;> omega
  · rw [← e]
    exact ⟨.int _, H, I.tok _, ⟨_, rfl⟩, q⟩
def rRangeG : List V → Hp → VK → Prop := fun vs H Q => ∃ i j, vs = [V.int i, V.int j] ∧ New (.rng i j) H Q
theorem cr_rangeG : CallR X (.type "range") rRangeG := fun pins s σ H xs us Q I r ⟨i, j, h1, k⟩ => cr_range2 pins s σ H xs us Q I r ⟨i, j, h1, fun p hp => k.go p hp⟩
end
section
variable {X : Cx} {CX : CXT} {k : Nat} {f C : Addr} {fd : FuncData} {ps ks : List Str} {sp : Sp} {E : L2.St → XK} {x m : Str} {p pos apos kpos : Pos} {kws : List Keyword} {tk : TA} {g : List Value → List Value → List Value} {gV : List V → List V → List V}
theorem run_fnkS {pins : List (Addr × Obj)} {σ : L2.St} {H : Hp} {s : Shared} {Q : VK} {us ws : List Value} {vs zs : List V} (F : FnOk X.prog X.w X.K X.mg X.base CX k f fd ps sp) (hr : Room k X.A) (hb : KBinds X.K fd ps ks g gV) (hx : PassesAt CX X σ (E σ))
    (I : Inv X pins σ H s) (r : Vals vs us) (rz : Vals zs ws) (h : sp (gV vs zs) H Q (E σ)) : wpAny (model X.prog X.w) X.A (call (.ref f) us (ks.zip ws)) (EP X pins σ Q) X.xe s := by
  have r2 := hb.rel r rz
  have hl : (g us ws).length = ps.length := by rw [← r2.length]; exact F.len _ _ _ _ h
  refine wpAny_call (codeAny_mono (F.run X.A X.stack s H ⟨us, ks.zip ws⟩ (g us ws) (gV vs zs) Q (E σ) hr I.env0 (hb.to s us ws I.kIn hl) r2 h) fun r s' hq => ?_)
  cases r with
  | error e => exact hx pins H s e s' I hq
  | ok fl =>
    cases fl with
    | ret u => exact I.after hq
    | next => exact False.elim hq
    | brk => exact False.elim hq
    | cont => exact False.elim hq
def tCallKS (sp : Sp) (gV : List V → List V → List V) (E : L2.St → XK) (t tk : TA) : TE := fun σ H Q => t σ H fun vs H1 => tk σ H1 fun zs H2 => sp (gV vs zs) H2 Q (E σ)
/-- f(k = v, ..) in a try -/
theorem pe_callK0S (F : FnOk X.prog X.w X.K X.mg X.base CX k f fd ps sp) (hr : Room k X.A) (hg : Gl X x) (hm : X.mg x = some (.ref f)) (hk : PySem.W.keepIn X.K (.ref f) = true) (hb : KBinds X.K fd ps ks g gV) (hx : ∀ σ, PassesAt CX X σ (E σ))
    (hkw : PK X kws tk) (hall : (backToKw pos (keywordEach kws X.env)).all (·.1.isSome) = true := by rfl) (hks : (backToKw pos (keywordEach kws X.env)).filterMap (·.1) = ks := by rfl)
    (hdb : (x == ("__debug__" : Str)) = false := by decide)
    (hpl : ((backTo pos (starEach [] X.env)).any (·.1) || (backToKw pos (keywordEach kws X.env)).any (·.1.isNone)) = false := by rfl) :
    PE X (.Call (.Name x p) [] kws pos) (tCallKS sp gV E tNil tk) := by
  refine ⟨fun pins s σ H Q I h => ?_⟩
  refine wpAny_Call_Name_kw (ld_glob I hg hm ?_ hdb)
  refine PySem.W.callWith_KW0 (h₀ := X.base) I.ok.mod.kin hk hall ?_ hpl
  refine thn (hkw.run pos pins s σ H _ I h) fun ws s2 ⟨zs, H2, I2, rz, q2⟩ => ⟨I2.kIn, ?_⟩
  rw [hks]
  exact run_fnkS (us := []) (vs := []) F hr hb (hx σ) I2 .nil rz q2
variable {e : Expr} {es : List Expr} {t : TA}
/-- f(e, .., k = v, ..) in a try -/
theorem pe_callKS (F : FnOk X.prog X.w X.K X.mg X.base CX k f fd ps sp) (hr : Room k X.A) (hg : Gl X x) (hm : X.mg x = some (.ref f)) (hk : PySem.W.keepIn X.K (.ref f) = true) (hb : KBinds X.K fd ps ks g gV) (hx : ∀ σ, PassesAt CX X σ (E σ))
    (ha : PA X (e :: es) t) (hkw : PK X kws tk) (hall : (backToKw pos (keywordEach kws X.env)).all (·.1.isSome) = true := by rfl) (hks : (backToKw pos (keywordEach kws X.env)).filterMap (·.1) = ks := by rfl)
    (hdb : (x == ("__debug__" : Str)) = false := by decide) (he : starEach (e :: es) X.env = (false, eval e X.env) :: starEach es X.env := by rfl)
    (hpl : ((backTo pos (starEach (e :: es) X.env)).any (·.1) || (backToKw pos (keywordEach kws X.env)).any (·.1.isNone)) = false := by rfl) :
    PE X (.Call (.Name x p) (e :: es) kws pos) (tCallKS sp gV E t tk) := by
  refine ⟨fun pins s σ H Q I h => ?_⟩
  refine wpAny_Call_Name_kw (ld_glob I hg hm ?_ hdb)
  refine PySem.W.callWith_KW (h₀ := X.base) I.ok.mod.kin hk hall (thn (ha.run pos pins s σ H _ I h) fun us s1 ⟨vs, H1, I1, r, q⟩ => ?_) hpl he
  refine thn (hkw.run pos pins s1 σ H1 _ I1 q) fun ws s2 ⟨zs, H2, I2, rz, q2⟩ => ⟨I2.kIn, ?_⟩
  rw [hks]
  exact run_fnkS F hr hb (hx σ) I2 r rz q2
end
/-! rules within a comprehension: what may be kept by name is that of the def -/
section
variable {X : Cx} {K : PySem.W.Frag}
theorem crK {f : Value} {r : PySem.W.Frag → List V → Hp → VK → Prop} (h : X.K = K) (c : CallR X f (r X.K)) : CallR X f (r K) := h ▸ c
theorem ixK {r : PySem.W.Frag → R2} (h : X.K = K) (c : IxR X (r X.K)) : IxR X (r K) := h ▸ c
theorem opK {f : Value → Value → Sem Value} {r : PySem.W.Frag → R2} (h : X.K = K) (c : OpR X f (r X.K)) : OpR X f (r K) := h ▸ c
def rLenSq (K : PySem.W.Frag) : List V → Hp → VK → Prop := fun xs H Q => ∃ p ys, xs = [.ref p] ∧ (SqL K H p ys ∨ SqT K H p ys) ∧ Q (.int ys.length) H
end
end My
set_option Elab.async false
set_option linter.all false
set_option maxRecDepth 100000
set_option maxHeartbeats 4000000
/-! zip of three lists: the iterators lie at n, n + 1, n + 2, the tuples at n + 3, n + 4, the zip at n + 5. -/
namespace My
open PySem PySem.Spec PyProof.Rows L2
theorem typeCall_zip_3 (a b c : Value) : checkTypeCall "zip" ⟨[a, b, c], []⟩ = pure () := by kernel_rfl
theorem newCall_zip_3 (a b c : Value) : checkBuiltinCall "zip.__new__" ⟨[.type "zip", a, b, c], []⟩ = pure () := by kernel_rfl
theorem args_object_init_4 (a b c d : Value) : argsOk "object.__init__" ⟨[a, b, c, d], []⟩ := by
  unfold argsOk
  rw [signature?_of (id := "object.__init__") (n := ['_', '_', 't', 'i', 'n', 'i', '_', '_']) (o := ['t', 'c', 'e', 'j', 'b', 'o']) (by kernel_rfl) F.owner_object]
  kernel_rfl
abbrev IsTrip (h : Heap) (T : Addr) (a b c : Value) : Prop := h.get? T = some { cls := .type "tuple", data := .seq #[a, b, c] }
section
variable {prog : Program} {w : World} {A : Around} {E : Value → Shared → Prop} {s : Shared}
theorem updateSeq_trip {T : Addr} {a b c x : Value} {k : Nat} {Q : Unit → Shared → Prop} (hT : IsTrip s.heap T a b c)
    (h : ∀ h', h'.get? T = some { cls := .type "tuple", data := .seq ((#[a, b, c] : Array Value).setIfInBounds k x) } → Heap.SameBut T s.heap h' → Q () { s with heap := h' }) :
    wpAny (model prog w) A (updateSeq T (·.setIfInBounds k x)) Q E s := by
  refine wpAny_updateSeq hT rfl (h _ ?_ (Heap.SameBut.update ..))
  rw [Heap.get?_update_self _ hT rfl]
  simp [Obj.mapSeq]
variable {n l1 l2 l3 : Nat} {k : Nat} {xs ys zs : Array Value} {x y z a b c : Value}
/-- an item of each -/
theorem zip3_item {Q : Option Value → Shared → Prop} (g1 : l1 < n) (g2 : l2 < n) (g3 : l3 < n)
    (hz : IsZip s.heap (n + 5) (n + 3) (n + 4) .none) (hTI : IsTrip s.heap (n + 3) (.ref n) (.ref (n + 1)) (.ref (n + 2))) (hTO : IsTrip s.heap (n + 4) a b c)
    (h1 : s.heap.IsListIter n l1 k) (h2 : s.heap.IsListIter (n + 1) l2 k) (h3 : s.heap.IsListIter (n + 2) l3 k) (hl1 : s.heap.IsList l1 xs) (hl2 : s.heap.IsList l2 ys) (hl3 : s.heap.IsList l3 zs)
    (hx : xs[k]? = some x) (hy : ys[k]? = some y) (hzz : zs[k]? = some z)
    (hQ : ∀ h', IsZip h' (n + 5) (n + 3) (n + 4) (rawInt s.heap.objs.size) → IsTrip h' (n + 4) x y z → h'.IsListIter n l1 (k + 1) → h'.IsListIter (n + 1) l2 (k + 1) → h'.IsListIter (n + 2) l3 (k + 1) →
      IsTrip h' s.heap.objs.size x y z → h'.objs.size = s.heap.objs.size + 1 →
      (∀ c o, c ≠ n + 5 → c ≠ n + 4 → c ≠ n → c ≠ n + 1 → c ≠ n + 2 → s.heap.get? c = some o → h'.get? c = some o) → Q (some (.ref s.heap.objs.size)) { s with heap := h' }) :
    wpAny (model prog w) A (pyNext (.ref (n + 5))) Q E s := by
  have hT : s.TypeIs (.ref (n + 5)) "zip" := ⟨_, hz, rfl⟩
  have ne : ∀ {p q : Nat}, p < q → (p : Addr) ≠ q := fun h => Nat.ne_of_lt h
  have ne' : ∀ {p q : Nat}, q < p → (p : Addr) ≠ q := fun h => Nat.ne_of_gt h
  unfold pyNext
  refine wpAny_bind (wpAny_attempt (wpAny_callSpecial?_slot (name := Str.ofString "__next__") hT F.slot_zip_next
    (wpAny_call_entry F.slot_zip_next hT F.entry_zip_next (id ?_) (F.args_zip_next_1 _))))
  show wpAny _ _ (field (.ref (n + 5)) 2 >>= _) _ _ _
  refine wpAny_bind (wpAny_field hz rfl (x := .bool false) rfl ?_)
  show wpAny _ _ (field (.ref (n + 5)) 3 >>= _) _ _ _
  refine wpAny_bind (wpAny_field hz rfl (x := .ref (n + 3)) rfl ?_)
  refine wpAny_bind (wpAny_seqItems hTI rfl ?_)
  show wpAny _ _ (Builtin.SmallTypes.ownedTupleIsFree (.ref (n + 5)) >>= _) _ _ _
  refine wpAny_bind ?_
  unfold Builtin.SmallTypes.ownedTupleIsFree
  refine wpAny_bind (wpAny_field hz rfl (x := .none) rfl (wpAny_pure ?_))
  simp only [if_true]
  refine wpAny_bind (wpAny_rule ?_)
  refine wpAny_bind (wpAny_field hz rfl (x := .ref (n + 4)) rfl ?_)
  refine wpAny_bind (wpAny_setField_rec hz (by simp) fun ha hza sa => ?_)
  replace hza : IsZip ha (n + 5) (n + 3) (n + 4) .ellipsis := hza
  refine wpAny_bind ?_
  simp only [List.zipIdx_cons, List.zipIdx_nil, List.forIn_cons, List.forIn_nil]
  -- the first
  refine wpAny_bind (wpAny_bind (wpAny_onRaise ?_))
  show wpAny _ _ (Builtin.SmallTypes.nextOf (.ref n) >>= _) _ _ _
  refine wpAny_bind (wpAny_nextOf_list_item (h1.extBut sa.extBut (ne (by omega))) (hl1.extBut sa.extBut (ne (by omega))) hx fun hb h1b sb => wpAny_pure ?_)
  have Tb : IsTrip hb (n + 4) a b c := sb.extBut _ _ (ne' (by omega)) (sa.extBut _ _ (ne (by omega)) hTO)
  refine wpAny_bind (wpAny_seqItems Tb rfl ?_)
  refine wpAny_bind (updateSeq_trip Tb fun hc Tc sc => ?_)
  replace Tc : IsTrip hc (n + 4) x b c := Tc
  refine wpAny_bind (wpAny_letGo (wpAny_pure ?_))
  -- the second
  refine wpAny_bind (wpAny_bind (wpAny_onRaise ?_))
  show wpAny _ _ (Builtin.SmallTypes.nextOf (.ref (n + 1)) >>= _) _ _ _
  have upc : ∀ q o, q ≠ n + 5 → q ≠ n → q ≠ n + 4 → s.heap.get? q = some o → hc.get? q = some o := fun q o c1 c2 c3 e => sc.extBut _ _ c3 (sb.extBut _ _ c2 (sa.extBut _ _ c1 e))
  refine wpAny_bind (wpAny_nextOf_list_item (h2.at fun o e => upc _ o (ne (by omega)) (ne' (by omega)) (ne (by omega)) e) (hl2.at fun o e => upc _ o (ne (by omega)) (ne (by omega)) (ne (by omega)) e) hy fun hd h2d sd => wpAny_pure ?_)
  have Td : IsTrip hd (n + 4) x b c := sd.extBut _ _ (ne' (by omega)) Tc
  refine wpAny_bind (wpAny_seqItems Td rfl ?_)
  refine wpAny_bind (updateSeq_trip Td fun he Te se => ?_)
  replace Te : IsTrip he (n + 4) x y c := Te
  refine wpAny_bind (wpAny_letGo (wpAny_pure ?_))
  -- the third
  refine wpAny_bind (wpAny_bind (wpAny_onRaise ?_))
  show wpAny _ _ (Builtin.SmallTypes.nextOf (.ref (n + 2)) >>= _) _ _ _
  have upe : ∀ q o, q ≠ n + 5 → q ≠ n → q ≠ n + 1 → q ≠ n + 4 → s.heap.get? q = some o → he.get? q = some o := fun q o c1 c2 c3 c4 e => se.extBut _ _ c4 (sd.extBut _ _ c3 (upc q o c1 c2 c4 e))
  refine wpAny_bind (wpAny_nextOf_list_item (h3.at fun o e => upe _ o (ne (by omega)) (ne' (by omega)) (ne' (by omega)) (ne (by omega)) e) (hl3.at fun o e => upe _ o (ne (by omega)) (ne (by omega)) (ne (by omega)) (ne (by omega)) e) hzz fun hf h3f sf => wpAny_pure ?_)
  have Tf : IsTrip hf (n + 4) x y c := sf.extBut _ _ (ne' (by omega)) Te
  refine wpAny_bind (wpAny_seqItems Tf rfl ?_)
  refine wpAny_bind (updateSeq_trip Tf fun hg Tg sg => ?_)
  replace Tg : IsTrip hg (n + 4) x y z := Tg
  refine wpAny_bind (wpAny_letGo (wpAny_pure (wpAny_pure ?_)))
  -- the tuple
  refine wpAny_bind (wpAny_seqItems Tg rfl ?_)
  refine wpAny_bind (wpAny_newTuple ?_)
  have hsz : hg.objs.size = s.heap.objs.size := by rw [sg.1, sf.1, se.1, sd.1, sc.1, sb.1, sa.1]
  have zg : IsZip hg (n + 5) (n + 3) (n + 4) .ellipsis := sg.extBut _ _ (ne' (by omega)) (sf.extBut _ _ (ne' (by omega)) (se.extBut _ _ (ne' (by omega)) (sd.extBut _ _ (ne' (by omega)) (sc.extBut _ _ (ne' (by omega)) (sb.extBut _ _ (ne' (by omega)) hza)))))
  have upg : ∀ q o, q ≠ n + 5 → q ≠ n + 4 → q ≠ n → q ≠ n + 1 → q ≠ n + 2 → s.heap.get? q = some o → hg.get? q = some o := fun q o c1 c2 c3 c4 c5 e => sg.extBut _ _ c2 (sf.extBut _ _ c5 (upe q o c1 c3 c4 c2 e))
  have h1g : hg.IsListIter n l1 (k + 1) := ((((h1b.extBut sc.extBut (ne (by omega))).extBut sd.extBut (ne (by omega))).extBut se.extBut (ne (by omega))).extBut sf.extBut (ne (by omega))).extBut sg.extBut (ne (by omega))
  have h2g : hg.IsListIter (n + 1) l2 (k + 1) := ((h2d.extBut se.extBut (ne (by omega))).extBut sf.extBut (ne (by omega))).extBut sg.extBut (ne (by omega))
  have h3g : hg.IsListIter (n + 2) l3 (k + 1) := h3f.extBut sg.extBut (ne (by omega))
  have zlt : n + 5 < hg.objs.size := Heap.lt_size zg
  show wpAny _ _ (Builtin.SmallTypes.ownedTupleHandOut (.ref (n + 5)) (.ref hg.objs.size) >>= _) _ _ _
  refine wpAny_bind ?_
  unfold Builtin.SmallTypes.ownedTupleHandOut
  have zh : IsZip (hg.push { cls := .type "tuple", data := .seq #[x, y, z] }) (n + 5) (n + 3) (n + 4) .ellipsis := Heap.get?_push_of_some _ zg
  refine wpAny_bind (wpAny_setField_rec zh (by simp) fun hi zi si => ?_)
  replace zi : IsZip hi (n + 5) (n + 3) (n + 4) (rawInt hg.objs.size) := zi
  refine wpAny_setField_rec zi (by simp) fun hj zj sj => ?_
  replace zj : IsZip hj (n + 5) (n + 3) (n + 4) (rawInt hg.objs.size) := zj
  have up : ∀ q o, q ≠ n + 5 → hg.get? q = some o → hj.get? q = some o := fun q o c1 e => sj.extBut _ _ c1 (si.extBut _ _ c1 (Heap.get?_push_of_some _ e))
  have Tj : IsTrip hj hg.objs.size x y z := sj.extBut _ _ (Nat.ne_of_gt zlt) (si.extBut _ _ (Nat.ne_of_gt zlt) (Heap.get?_push_size _ rfl))
  have szj : hj.objs.size = hg.objs.size + 1 := by rw [sj.1, si.1, Heap.size_push]
  rw [hsz] at zj Tj szj
  refine wpAny_pure ⟨_, rfl, ?_⟩
  rw [hsz]
  refine wpAny_pure ?_
  exact hQ hj zj (up _ _ (ne (by omega)) Tg) (h1g.at fun o e => up _ o (ne (by omega)) e) (h2g.at fun o e => up _ o (ne (by omega)) e) (h3g.at fun o e => up _ o (ne (by omega)) e) Tj szj fun q o c1 c2 c3 c4 c5 e => up q o c1 (upg q o c1 c2 c3 c4 c5 e)
/-- the second list has come to its end -/
theorem zip3_end {Q : Option Value → Shared → Prop} (hh : A.handled = none) (g1 : l1 < n) (g2 : l2 < n) (g3 : l3 < n)
    (hz : IsZip s.heap (n + 5) (n + 3) (n + 4) .none) (hTI : IsTrip s.heap (n + 3) (.ref n) (.ref (n + 1)) (.ref (n + 2))) (hTO : IsTrip s.heap (n + 4) a b c)
    (h1 : s.heap.IsListIter n l1 k) (h2 : s.heap.IsListIter (n + 1) l2 k) (h3 : s.heap.IsListIter (n + 2) l3 k) (hl1 : s.heap.IsList l1 xs) (hl2 : s.heap.IsList l2 ys)
    (hx : xs[k]? = some x) (hy : ys[k]? = none)
    (hQ : ∀ h', (∀ c o, c ≠ n + 5 → c ≠ n + 4 → c ≠ n → c ≠ n + 1 → c ≠ n + 2 → s.heap.get? c = some o → h'.get? c = some o) → Q none { s with heap := h' }) :
    wpAny (model prog w) A (pyNext (.ref (n + 5))) Q E s := by
  have hT : s.TypeIs (.ref (n + 5)) "zip" := ⟨_, hz, rfl⟩
  have ne : ∀ {p q : Nat}, p < q → (p : Addr) ≠ q := fun h => Nat.ne_of_lt h
  have ne' : ∀ {p q : Nat}, q < p → (p : Addr) ≠ q := fun h => Nat.ne_of_gt h
  have fin : ∀ h' e, (∀ c o, c ≠ n + 5 → c ≠ n + 4 → c ≠ n → c ≠ n + 1 → c ≠ n + 2 → s.heap.get? c = some o → h'.get? c = some o) → (∃ o, h'.get? e = some o ∧ o.cls = .type "StopIteration") →
      wpAny (model prog w) A (do if (← isInstance (.ref e) (.type "StopIteration")) then pure none else throw (.ref e)) Q E { s with heap := h' } := fun h' e hk he => by
    obtain ⟨o, ho, hc⟩ := he
    refine wpAny_bind (wpAny_isInstance (T := "StopIteration") (b := true) ⟨o, ho, hc⟩ isSubtype_stop ?_)
    exact wpAny_pure (hQ _ hk)
  unfold pyNext
  refine wpAny_bind (wpAny_attempt (wpAny_callSpecial?_slot (name := Str.ofString "__next__") hT F.slot_zip_next
    (wpAny_call_entry F.slot_zip_next hT F.entry_zip_next (id ?_) (F.args_zip_next_1 _))))
  show wpAny _ _ (field (.ref (n + 5)) 2 >>= _) _ _ _
  refine wpAny_bind (wpAny_field hz rfl (x := .bool false) rfl ?_)
  show wpAny _ _ (field (.ref (n + 5)) 3 >>= _) _ _ _
  refine wpAny_bind (wpAny_field hz rfl (x := .ref (n + 3)) rfl ?_)
  refine wpAny_bind (wpAny_seqItems hTI rfl ?_)
  show wpAny _ _ (Builtin.SmallTypes.ownedTupleIsFree (.ref (n + 5)) >>= _) _ _ _
  refine wpAny_bind ?_
  unfold Builtin.SmallTypes.ownedTupleIsFree
  refine wpAny_bind (wpAny_field hz rfl (x := .none) rfl (wpAny_pure ?_))
  simp only [if_true]
  refine wpAny_bind (wpAny_rule ?_)
  refine wpAny_bind (wpAny_field hz rfl (x := .ref (n + 4)) rfl ?_)
  refine wpAny_bind (wpAny_setField_rec hz (by simp) fun ha hza sa => ?_)
  replace hza : IsZip ha (n + 5) (n + 3) (n + 4) .ellipsis := hza
  refine wpAny_bind ?_
  simp only [List.zipIdx_cons, List.zipIdx_nil, List.forIn_cons, List.forIn_nil]
  refine wpAny_bind (wpAny_bind (wpAny_onRaise ?_))
  show wpAny _ _ (Builtin.SmallTypes.nextOf (.ref n) >>= _) _ _ _
  refine wpAny_bind (wpAny_nextOf_list_item (h1.extBut sa.extBut (ne (by omega))) (hl1.extBut sa.extBut (ne (by omega))) hx fun hb h1b sb => wpAny_pure ?_)
  have Tb : IsTrip hb (n + 4) a b c := sb.extBut _ _ (ne' (by omega)) (sa.extBut _ _ (ne (by omega)) hTO)
  refine wpAny_bind (wpAny_seqItems Tb rfl ?_)
  refine wpAny_bind (updateSeq_trip Tb fun hc Tc sc => ?_)
  refine wpAny_bind (wpAny_letGo (wpAny_pure ?_))
  refine wpAny_bind (wpAny_bind (wpAny_onRaise ?_))
  show wpAny _ _ (Builtin.SmallTypes.nextOf (.ref (n + 1)) >>= _) _ _ _
  have upc : ∀ q o, q ≠ n + 5 → q ≠ n → q ≠ n + 4 → s.heap.get? q = some o → hc.get? q = some o := fun q o c1 c2 c3 e => sc.extBut _ _ c3 (sb.extBut _ _ c2 (sa.extBut _ _ c1 e))
  refine wpAny_bind (wpAny_nextOf_list_end hh (h2.at fun o e => upc _ o (ne (by omega)) (ne' (by omega)) (ne (by omega)) e) (hl2.at fun o e => upc _ o (ne (by omega)) (ne (by omega)) (ne (by omega)) e) hy fun hd e sd he => ?_)
  obtain ⟨oe, hoe, hce⟩ := he
  have zd : IsZip hd (n + 5) (n + 3) (n + 4) .ellipsis := sd _ _ (ne' (by omega)) (sc.extBut _ _ (ne' (by omega)) (sb.extBut _ _ (ne' (by omega)) hza))
  have hez : e ≠ n + 5 := fun x => by
    subst x
    rw [zd] at hoe
    cases hoe
    simp at hce
  refine wpAny_setField_rec zd (by simp) fun h5 _ s5 => ?_
  refine fin h5 e (fun q o c1 c2 c3 c4 c5 x => s5.extBut _ _ c1 (sd _ _ c4 (upc q o c1 c3 c2 x))) ⟨oe, s5.extBut _ _ hez hoe, hce⟩
abbrev z3H1 (h : Heap) (l1 : Addr) : Heap := h.push { cls := .type "list_iterator", data := .fields #[.ref l1, .int 0 0] }
abbrev z3H2 (h : Heap) (l1 l2 : Addr) : Heap := (z3H1 h l1).push { cls := .type "list_iterator", data := .fields #[.ref l2, .int 0 0] }
abbrev z3H3 (h : Heap) (l1 l2 l3 : Addr) : Heap := (z3H2 h l1 l2).push { cls := .type "list_iterator", data := .fields #[.ref l3, .int 0 0] }
abbrev z3H4 (h : Heap) (l1 l2 l3 : Addr) : Heap := (z3H3 h l1 l2 l3).push { cls := .type "tuple", data := .seq #[.ref h.objs.size, .ref (z3H1 h l1).objs.size, .ref (z3H2 h l1 l2).objs.size] }
abbrev z3H5 (h : Heap) (l1 l2 l3 : Addr) : Heap := (z3H4 h l1 l2 l3).push { cls := .type "tuple", data := .seq #[.none, .none, .none] }
abbrev z3H6 (h : Heap) (l1 l2 l3 : Addr) : Heap := (z3H5 h l1 l2 l3).push { cls := .type "zip", data := .fields #[.none, .bool false, .bool false, .ref (z3H3 h l1 l2 l3).objs.size, .ref (z3H4 h l1 l2 l3).objs.size] }
theorem meets_zip_new3 (l1 l2 l3 : Addr) (xs ys zs : Array Value) :
    Meets (Builtin.«zip.__new__» ⟨[.type "zip", .ref l1, .ref l2, .ref l3], []⟩) (fun _ R s => s.heap.IsList l1 xs ∧ s.heap.IsList l2 ys ∧ s.heap.IsList l3 zs ∧
      R (.ok (.ret (.ref (z3H5 s.heap l1 l2 l3).objs.size))) { s with heap := z3H6 s.heap l1 l2 l3 }) :=
  .of_wp fun prog w A R s h => by
    obtain ⟨hp, g, d, tk, os⟩ := s
    obtain ⟨hl1, hl2, hl3, h⟩ := h
    have hsub := sub_zip
    have hL1 : Heap.IsList (Shared.heap ⟨hp, g, d, tk, os⟩) l1 xs := hl1
    have hL2 : Heap.IsList (Shared.heap ⟨hp.push { cls := .type "list_iterator", data := .fields #[.ref l1, .int 0 0] }, g, d, tk, os⟩) l2 ys := Heap.IsList.push hl2 _
    have hL3 : Heap.IsList (Shared.heap ⟨(hp.push { cls := .type "list_iterator", data := .fields #[.ref l1, .int 0 0] }).push { cls := .type "list_iterator", data := .fields #[.ref l2, .int 0 0] }, g, d, tk, os⟩) l3 zs := Heap.IsList.push (Heap.IsList.push hl3 _) _
    wp_walk using wpAny_pyIter_list hL1, wpAny_pyIter_list hL2, wpAny_pyIter_list hL3
    exact ⟨_, rfl, h⟩
theorem call_zip_3 {l1 l2 l3 : Addr} {xs ys zs : Array Value} {Q : Value → Shared → Prop} (hl1 : s.heap.IsList l1 xs) (hl2 : s.heap.IsList l2 ys) (hl3 : s.heap.IsList l3 zs)
    (h : ∀ h', IsZip h' (s.heap.objs.size + 5) (s.heap.objs.size + 3) (s.heap.objs.size + 4) .none → IsTrip h' (s.heap.objs.size + 3) (.ref s.heap.objs.size) (.ref (s.heap.objs.size + 1)) (.ref (s.heap.objs.size + 2)) →
      IsTrip h' (s.heap.objs.size + 4) .none .none .none → h'.IsListIter s.heap.objs.size l1 0 → h'.IsListIter (s.heap.objs.size + 1) l2 0 → h'.IsListIter (s.heap.objs.size + 2) l3 0 →
      (∀ c o, s.heap.get? c = some o → h'.get? c = some o) → Q (.ref (s.heap.objs.size + 5)) { s with heap := h' }) :
    wpAny (model prog w) A (call (.type "zip") [.ref l1, .ref l2, .ref l3]) Q E s := by
  refine callType_new F.called_zip (by decide) (typeCall_zip_3 _ _ _) (newCall_zip_3 _ _ _) (fun obj => args_object_init_4 obj _ _ _) F.entry_zip_new
    (meets_zip_new3 l1 l2 l3 xs ys zs) ⟨hl1, hl2, hl3, ?_⟩
  have z1 : (z3H1 s.heap l1).objs.size = s.heap.objs.size + 1 := Heap.size_push ..
  have z2 : (z3H2 s.heap l1 l2).objs.size = s.heap.objs.size + 2 := by rw [Heap.size_push, z1]
  have z3 : (z3H3 s.heap l1 l2 l3).objs.size = s.heap.objs.size + 3 := by rw [Heap.size_push, z2]
  have z4 : (z3H4 s.heap l1 l2 l3).objs.size = s.heap.objs.size + 4 := by rw [Heap.size_push, z3]
  have z5 : (z3H5 s.heap l1 l2 l3).objs.size = s.heap.objs.size + 5 := by rw [Heap.size_push, z4]
  have g6 : (z3H6 s.heap l1 l2 l3).get? (z3H5 s.heap l1 l2 l3).objs.size = some _ := Heap.get?_push_size _ rfl
  have g5 : (z3H6 s.heap l1 l2 l3).get? (z3H4 s.heap l1 l2 l3).objs.size = some _ := Heap.get?_push_of_some _ (Heap.get?_push_size _ rfl)
  have g4 : (z3H6 s.heap l1 l2 l3).get? (z3H3 s.heap l1 l2 l3).objs.size = some _ := Heap.get?_push_of_some _ (Heap.get?_push_of_some _ (Heap.get?_push_size _ rfl))
  have g3 : (z3H6 s.heap l1 l2 l3).get? (z3H2 s.heap l1 l2).objs.size = some _ := Heap.get?_push_of_some _ (Heap.get?_push_of_some _ (Heap.get?_push_of_some _ (Heap.get?_push_size _ rfl)))
  have g2 : (z3H6 s.heap l1 l2 l3).get? (z3H1 s.heap l1).objs.size = some _ := Heap.get?_push_of_some _ (Heap.get?_push_of_some _ (Heap.get?_push_of_some _ (Heap.get?_push_of_some _ (Heap.get?_push_size _ rfl))))
  have g1 : (z3H6 s.heap l1 l2 l3).get? s.heap.objs.size = some _ := Heap.get?_push_of_some _ (Heap.get?_push_of_some _ (Heap.get?_push_of_some _ (Heap.get?_push_of_some _ (Heap.get?_push_of_some _ (Heap.get?_push_size _ rfl)))))
  show _ ∧ _
  rw [z3, z4, z5] at g6
  rw [z1, z2, z3] at g4
  rw [z4] at g5
  rw [z2] at g3
  rw [z1] at g2
  rw [z5]
  exact ⟨⟨_, g6, rfl⟩, h _ g6 g4 g5 ⟨_, g1, rfl, rfl⟩ ⟨_, g2, rfl, rfl⟩ ⟨_, g3, rfl, rfl⟩ fun c o x =>
    Heap.get?_push_of_some _ (Heap.get?_push_of_some _ (Heap.get?_push_of_some _ (Heap.get?_push_of_some _ (Heap.get?_push_of_some _ (Heap.get?_push_of_some _ x)))))⟩
end
/-- the lists at a, b, c; the first is longer -/
def Itz3 (K : PySem.W.Frag) (a b c : Addr) : It :=
  ⟨fun i H => ∃ (xs ys zs : List V) (x y z : V), SqL K H a xs ∧ SqL K H b ys ∧ SqL K H c zs ∧ xs[i]? = some x ∧ ys[i]? = some y ∧ zs[i]? = some z,
    fun i H v H' => ∃ T x y z, v = .ref T ∧ H T = none ∧ H' = upd H T (.tup [x, y, z]) ∧ (∀ xs, SqL K H a xs → xs[i]? = some x) ∧ (∀ ys, SqL K H b ys → ys[i]? = some y) ∧ ∀ zs, SqL K H c zs → zs[i]? = some z,
    fun i H => ∃ xs ys : List V, SqL K H a xs ∧ SqL K H b ys ∧ i < xs.length ∧ ys.length ≤ i⟩
theorem turn_zip3 {P : Program} {w : World} {K : PySem.W.Frag} {elts : List Expr} {kk : Nat} {tpos : Pos} {a b c n : Nat} (ga : a < n) (gb : b < n) (gc : c < n) :
    Turn P w K (.Tuple elts kk tpos) (Itz3 K a b c) [n, n + 1, n + 2, n + 3, n + 4, n + 5] (n + 5) (fun i h => IsZip h (n + 5) (n + 3) (n + 4) .none ∧ IsTrip h (n + 3) (.ref n) (.ref (n + 1)) (.ref (n + 2)) ∧ (∃ x y z, IsTrip h (n + 4) x y z) ∧ h.IsListIter n a i ∧ h.IsListIter (n + 1) b i ∧ h.IsListIter (n + 2) c i) where
  mem := by simp
  obj := fun i h st q hq => by
    obtain ⟨hz, hTI, ⟨x, y, z, hTO⟩, ⟨o1, e1, _, d1⟩, ⟨o2, e2, _, d2⟩, ⟨o3, e3, _, d3⟩⟩ := st
    have e' : q = n ∨ q = n + 1 ∨ q = n + 2 ∨ q = n + 3 ∨ q = n + 4 ∨ q = n + 5 := by simpa using hq
    rcases e' with e | e | e | e | e | e
    · rw [e]; exact ⟨o1, e1, fun v q => by rw [d1] at q; cases q⟩
    · rw [e]; exact ⟨o2, e2, fun v q => by rw [d2] at q; cases q⟩
    · rw [e]; exact ⟨o3, e3, fun v q => by rw [d3] at q; cases q⟩
    · rw [e]; exact ⟨_, hTI, fun v q => nomatch q⟩
    · rw [e]; exact ⟨_, hTO, fun v q => nomatch q⟩
    · rw [e]; exact ⟨_, hz, fun v q => nomatch q⟩
  keep := fun i h h' st k => by
    obtain ⟨hz, hTI, ⟨x, y, z, hTO⟩, h1, h2, h3⟩ := st
    exact ⟨k _ (by simp) _ hz, k _ (by simp) _ hTI, ⟨x, y, z, k _ (by simp) _ hTO⟩, h1.at fun o q => k _ (by simp) o q, h2.at fun o q => k _ (by simp) o q, h3.at fun o q => k _ (by simp) o q⟩
  item := by
    intro X hP hw hK hc i pins s σ H E I hf st hg
    subst hP hw hK
    obtain ⟨hz, hTI, ⟨x0, y0, z0, hTO⟩, h1, h2, h3⟩ := st
    obtain ⟨xs, ys, zs, x, y, z, hqx, hqy, hqz, hx, hy, hzz⟩ := hg
    obtain ⟨its, rv, p, _⟩ := I.list hqx
    obtain ⟨its2, rv2, p2, _⟩ := I.list hqy
    obtain ⟨its3, rv3, p3, _⟩ := I.list hqz
    obtain ⟨u, hu, ru⟩ := rv.get hx
    obtain ⟨u2, hu2, ru2⟩ := rv2.get hy
    obtain ⟨u3, hu3, ru3⟩ := rv3.get hzz
    have hzl : n + 5 < s.heap.objs.size := Heap.lt_size hz
    refine zip3_item ga gb gc hz hTI hTO h1 h2 h3 p.isList p2.isList p3.isList (x := u) (y := u2) (z := u3) (by simpa using hu) (by simpa using hu2) (by simpa using hu3) fun h' z' TO' h1' h2' h3' hT hsz hk => ?_
    refine ⟨_, rfl, wpAny_letOwnedTupleGo_zip (s := { s with heap := h' }) z' fun h'' z'' sb => ?_⟩
    have hT2 : h''.get? s.heap.objs.size = some { cls := .type "tuple", data := .seq #[u, u2, u3] } := (sb.2 _ (Nat.ne_of_gt hzl)).trans hT
    have new : ObjOk X.prog X.w (upd H s.heap.objs.size (.tup [x, y, z])) h'' s.heap.objs.size (.tup [x, y, z]) :=
      ⟨by show 3 ≤ sizeLine; decide, [u, u2, u3], .cons ru (.cons ru2 (.cons ru3 .nil)), ⟨_, hT2, rfl, _, rfl⟩⟩
    have I1 : Inv X pins σ (upd H s.heap.objs.size (.tup [x, y, z])) { s with heap := h'' } :=
      I.turnedNew (t' := s.toks) (ch := [n, n + 1, n + 2, n + 3, n + 4, n + 5]) (fun q o hb e => (sb.2 q (fun q' => hb (by simp [q']))).trans (hk q o (fun q' => hb (by simp [q'])) (fun q' => hb (by simp [q'])) (fun q' => hb (by simp [q'])) (fun q' => hb (by simp [q'])) (fun q' => hb (by simp [q'])) e)) hf (Nat.le_refl _) new
    have ne : ∀ {p q : Nat}, p < q → (p : Addr) ≠ q := fun h => Nat.ne_of_lt h
    have ne' : ∀ {p q : Nat}, q < p → (p : Addr) ≠ q := fun h => Nat.ne_of_gt h
    refine ⟨.ref s.heap.objs.size, _, I1, rfl, ⟨_, x, y, z, rfl, I.hok.fresh (Nat.le_refl _), rfl, fun l hl => by rw [I.list_inj hl hqx]; exact hx, fun l hl => by rw [I.list_inj hl hqy]; exact hy, fun l hl => by rw [I.list_inj hl hqz]; exact hzz⟩, ⟨z'', ?_, ⟨u, u2, u3, ?_⟩, ?_, ?_, ?_⟩, fun q hcm => ?_⟩
    · exact (sb.2 _ (ne (by omega))).trans (hk _ _ (ne (by omega)) (ne (by omega)) (ne' (by omega)) (ne' (by omega)) (ne' (by omega)) hTI)
    · exact (sb.2 _ (ne (by omega))).trans TO'
    · exact h1'.at fun o q => (sb.2 _ (ne (by omega))).trans q
    · exact h2'.at fun o q => (sb.2 _ (ne (by omega))).trans q
    · exact h3'.at fun o q => (sb.2 _ (ne (by omega))).trans q
    · have hlt : q < s.heap.objs.size := by
        have e' : q = n ∨ q = n + 1 ∨ q = n + 2 ∨ q = n + 3 ∨ q = n + 4 ∨ q = n + 5 := by simpa using hcm
        have hle : ∀ q : Nat, (q = n ∨ q = n + 1 ∨ q = n + 2 ∨ q = n + 3 ∨ q = n + 4 ∨ q = n + 5) → q ≤ n + 5 := fun q h => by omega
        exact Nat.lt_of_le_of_lt (hle q e') hzl
      rw [upd_ne (Nat.ne_of_lt hlt)]
      exact (hf q hcm).1
  done := by
    intro X hP hw hK hc i pins s σ H E I hf st hg
    subst hP hw hK
    obtain ⟨hz, hTI, ⟨x0, y0, z0, hTO⟩, h1, h2, h3⟩ := st
    obtain ⟨xs, ys, hqx, hqy, hi, hend⟩ := hg
    obtain ⟨its, rv, p, _⟩ := I.list hqx
    obtain ⟨its2, rv2, p2, _⟩ := I.list hqy
    have l1 := rv.length
    have l2 := rv2.length
    have hx : its.toArray[i]? = some (its[i]'(by omega)) := by simp
    exact zip3_end (I.ok.hd hc) ga gb gc hz hTI hTO h1 h2 h3 p.isList p2.isList hx (by simp; omega) fun h' hk => ⟨rfl, I.turnedL (t' := s.toks) (ch := [n, n + 1, n + 2, n + 3, n + 4, n + 5]) (fun q o hb e =>
      hk q o (fun q' => hb (by simp [q'])) (fun q' => hb (by simp [q'])) (fun q' => hb (by simp [q'])) (fun q' => hb (by simp [q'])) (fun q' => hb (by simp [q'])) e) hf⟩
  self := fun A i s Q E st h => wpAny_pyIter_zip st.1 h
def iZip3 (K : PySem.W.Frag) (ta : TA) : TI := fun σ H R => ta σ H fun vs H1 => ∃ a b c xs ys zs, vs = [.ref a, .ref b, .ref c] ∧ SqL K H1 a xs ∧ SqL K H1 b ys ∧ SqL K H1 c zs ∧ R (Itz3 K a b c) H1
theorem pi_zip3 {X : Cx} {e e2 e3 : Expr} {ta : TA} {p pos tpos : Pos} {elts : List Expr} {kk : Nat} (hg : Gl X "zip") (hm : X.mg "zip" = none) (ha : PA X [e, e2, e3] ta)
    (hs : starEach [e, e2, e3] X.env = (false, eval e X.env) :: starEach [e2, e3] X.env := by rfl) (hpl : (backTo pos (starEach [e2, e3] X.env)).any (·.1) = false := by rfl) :
    PI X (.Tuple elts kk tpos) (.Call (.Name "zip" p) [e, e2, e3] [] pos) (iZip3 X.K ta) := by
  refine ⟨fun pins s σ H R I h => ?_⟩
  refine Call_ (ld_blt I hg hm PyProof.Rows.boot_zip (PyProof.Rows.callWith_type1 (thn (ha.run pos pins s σ H _ I h) fun us s1 ⟨vs, H1, I1, r1, q1⟩ => ?_) hs hpl))
  obtain ⟨a, b, c, xs, ys, zs, ex, hqx, hqy, hqz, q⟩ := q1
  subst ex
  cases r1 with
  | cons r rr =>
    cases rr with
    | cons r' rr =>
      cases rr with
      | cons r'' rr =>
        cases rr
        cases r
        cases r'
        cases r''
        obtain ⟨its, rv, p1, _⟩ := I1.list hqx
        obtain ⟨its2, rv2, p2, _⟩ := I1.list hqy
        obtain ⟨its3, rv3, p3, _⟩ := I1.list hqz
        refine call_zip_3 p1.isList p2.isList p3.isList fun h' hz hTI hTO h1 h2 h3 hk => wpAny_pyIter_zip hz ?_
        have I2 : Inv X pins σ H1 { s1 with heap := h' } := I1.kept (t' := s1.toks) hk
        refine ⟨s1.heap.objs.size + 5, [s1.heap.objs.size, s1.heap.objs.size + 1, s1.heap.objs.size + 2, s1.heap.objs.size + 3, s1.heap.objs.size + 4, s1.heap.objs.size + 5], _, _, H1, rfl, I2, turn_zip3 p1.lt p2.lt p3.lt, ⟨hz, hTI, ⟨_, _, _, hTO⟩, h1, h2, h3⟩, fun q hcm => ?_, q⟩
        have e' : q = s1.heap.objs.size ∨ q = s1.heap.objs.size + 1 ∨ q = s1.heap.objs.size + 2 ∨ q = s1.heap.objs.size + 3 ∨ q = s1.heap.objs.size + 4 ∨ q = s1.heap.objs.size + 5 := by simpa using hcm
        have hle0 : ∀ m q : Nat, (q = m ∨ q = m + 1 ∨ q = m + 2 ∨ q = m + 3 ∨ q = m + 4 ∨ q = m + 5) → m ≤ q := fun m q h => by omega
        have hle : s1.heap.objs.size ≤ q := hle0 _ q e'
        exact I1.fpOk hle (I1.hok.fresh hle)
end My
set_option Elab.async false
set_option linter.all false
set_option maxRecDepth 100000
set_option maxHeartbeats 4000000
/-! a op b op c op d; try with several clauses that name the exception; loops over zip of three lists. -/
namespace My
open PySem PySem.Spec PyProof.Rows L2
section
variable {X : Cx} {a b c d : Expr} {pos : Pos} {ta tb tc td : TE}
def tChain3 (r r' r'' : R2) (ta tb tc td : TE) : TE := fun σ H Q => ta σ H fun x H1 => tb σ H1 fun y H2 => r x y H2 fun z H3 => ∃ k, z = .bl k ∧
  (if k = true then tc σ H3 fun w' H4 => r' y w' H4 fun z2 H5 => ∃ k2, z2 = .bl k2 ∧ (if k2 = true then td σ H5 fun v H6 => r'' w' v H6 Q else Q (.bl false) H5) else Q (.bl false) H3)
theorem pe_chain3 {op op' op'' : CmpOp} {r r' r'' : R2} (ho : OpR X (compareOp op) r) (ho' : OpR X (compareOp op') r') (ho'' : OpR X (compareOp op'') r'') (ha : PE X a ta) (hb : PE X b tb) (hc : PE X c tc) (hd : PE X d td)
    (hm : lastMarks [op, op', op''] [b, c, d] = false := by with_unfolding_all rfl) : PE X (.Compare a [op, op', op''] [b, c, d] pos) (tChain3 r r' r'' ta tb tc td) := by
  refine ⟨fun pins s σ H Q I h => ?_⟩
  refine Compare_chain (thn (ha.run pins s σ H _ I h) fun v s1 ⟨x, H1, I1, r1, q1⟩ => chain_link (thn (hb.run pins s1 σ H1 _ I1 q1) fun u s2 ⟨y, H2, I2, r2, q2⟩ =>
    thn (ho pins s2 σ H2 x y v u _ I2 r1 r2 q2) fun d s3 ⟨z, H3, I3, r3, k, e, q3⟩ => ?_)) hm
  subst e
  cases r3
  refine wpAny_truthy_bool ?_
  cases k with
  | false => exact ite_ff ⟨.bl false, H3, I3, rfl, q3⟩
  | true =>
    refine ite_tt (chain_link (thn (hc.run pins s3 σ H3 _ I3 q3) fun w' s4 ⟨z', H4, I4, r4, q4⟩ => thn (ho' pins s4 σ H4 y z' u w' _ I4 r2 r4 q4) fun d2 s5 ⟨z2, H5, I5, r5, k2, e2, q5⟩ => ?_))
    subst e2
    cases r5
    refine wpAny_truthy_bool ?_
    cases k2 with
    | false => exact ite_ff ⟨.bl false, H5, I5, rfl, q5⟩
    | true => exact ite_tt (chain_last (thn (hd.run pins s5 σ H5 _ I5 q5) fun w2 s6 ⟨z3, H6, I6, r6, q6⟩ => ho'' pins s6 σ H6 z' z3 w' w2 Q I6 r4 r6 q6))
theorem pt_chain3 {op op' op'' : CmpOp} {r r' r'' : R2} (ho : OpR X (compareOp op) r) (ho' : OpR X (compareOp op') r') (ho'' : OpR X (compareOp op'') r'') (ha : PE X a ta) (hb : PE X b tb) (hc : PE X c tc) (hd : PE X d td)
    (hm : lastMarks [op, op', op''] [b, c, d] = false := by with_unfolding_all rfl) : PT X (.Compare a [op, op', op''] [b, c, d] pos) (tTest (tChain3 r r' r'' ta tb tc td)) := by
  refine ⟨fun pins s σ H Q I h => ?_⟩
  refine isTrue_chain (thn (ha.run pins s σ H _ I h) fun v s1 ⟨x, H1, I1, r1, q1⟩ => test_link (thn (hb.run pins s1 σ H1 _ I1 q1) fun u s2 ⟨y, H2, I2, r2, q2⟩ =>
    thn (ho pins s2 σ H2 x y v u _ I2 r1 r2 q2) fun d s3 ⟨z, H3, I3, r3, k, e, q3⟩ => ?_)) hm
  subst e
  cases r3
  refine wpAny_truthy_bool ?_
  cases k with
  | false =>
    obtain ⟨k', e', q'⟩ := q3
    cases e'
    exact ite_ff ⟨H3, I3, q'⟩
  | true =>
    refine ite_tt (test_link (thn (hc.run pins s3 σ H3 _ I3 q3) fun w' s4 ⟨z', H4, I4, r4, q4⟩ => thn (ho' pins s4 σ H4 y z' u w' _ I4 r2 r4 q4) fun d2 s5 ⟨z2, H5, I5, r5, k2, e2, q5⟩ => ?_))
    subst e2
    cases r5
    refine wpAny_truthy_bool ?_
    cases k2 with
    | false =>
      obtain ⟨k', e', q'⟩ := q5
      cases e'
      exact ite_ff ⟨H5, I5, q'⟩
    | true =>
      refine ite_tt (test_last (thn (hd.run pins s5 σ H5 _ I5 q5) fun w2 s6 ⟨z3, H6, I6, r6, q6⟩ => thn (ho'' pins s6 σ H6 z' z3 w' w2 _ I6 r4 r6 q6) fun d' s7 ⟨z4, H7, I7, r7, k4, e4, q7⟩ => ?_))
      subst e4
      cases r7
      exact wpAny_truthy_bool ⟨H7, I7, q7⟩
end
/-- a loop over zip of three lists, the first one longer by one -/
theorem for_zip3 {K : PySem.W.Frag} {a b c : Addr} {xs ys zs : List V} {g : TG} {tb : TS} {D : Ends} {σ : L2.St} {H : Hp} (hl : xs.length = ys.length + 1) (hl2 : zs.length = ys.length) (Pv : Nat → L2.St → Hp → Prop) (h0 : Pv 0 σ H) (hq : ∀ i σ H, Pv i σ H → SqL K H a xs ∧ SqL K H b ys ∧ SqL K H c zs)
    (hs : ∀ (i : Nat) (x y z : V) (T : Addr) (σ : L2.St) (H : Hp), xs[i]? = some x → ys[i]? = some y → zs[i]? = some z → Pv i σ H → H T = none → g (.ref T) σ (upd H T (.tup [x, y, z])) fun σ2 H2 => tb { D with nx := Pv (i + 1), ct := Pv (i + 1), bk := D.nx } σ2 H2) (hd : ∀ σ H, Pv ys.length σ H → D.nx σ H) :
    ∃ W : Nat → Nat → L2.St → Hp → Prop, (∃ m, W 0 m σ H) ∧ ∀ i m σ H, W i m σ H →
      ((Itz3 K a b c).stop i H ∧ D.nx σ H) ∨ ((Itz3 K a b c).go i H ∧ ∃ N : L2.St → Hp → Prop, (∀ σ' H', N σ' H' → ∃ m', m' < m ∧ W (i + 1) m' σ' H') ∧ ∀ v H', (Itz3 K a b c).yld i H v H' → g v σ H' fun σ2 H2 => tb { D with nx := N, ct := N, bk := D.nx } σ2 H2) := by
  refine ⟨fun i m σ H => m = ys.length - i ∧ i ≤ ys.length ∧ Pv i σ H, ⟨ys.length, rfl, Nat.zero_le _, h0⟩, ?_⟩
  rintro i m σ H ⟨rfl, hi, p⟩
  obtain ⟨qx, qy, qz⟩ := hq i σ H p
  by_cases hlt : i < ys.length
  · have hx : xs[i]? = some (xs[i]'(by omega)) := List.getElem?_eq_getElem (by omega)
    have hy : ys[i]? = some ys[i] := List.getElem?_eq_getElem hlt
    have hz : zs[i]? = some (zs[i]'(by omega)) := List.getElem?_eq_getElem (by omega)
    refine .inr ⟨⟨xs, ys, zs, _, _, _, qx, qy, qz, hx, hy, hz⟩, Pv (i + 1), fun σ' H' p' => ⟨ys.length - (i + 1), by omega, rfl, hlt, p'⟩, fun v H' y => ?_⟩
    obtain ⟨T, x, z, u, rfl, nT, rfl, fx, fy, fz⟩ := y
    exact hs i x z u T σ H (fx xs qx) (fy ys qy) (fz zs qz) p nT
  · have e : i = ys.length := by omega
    subst e
    exact .inl ⟨⟨xs, ys, qx, qy, by omega, Nat.le_refl _⟩, hd σ H p⟩
/-! ### several clauses, each with a name -/
def wAsN (K : PySem.W.Frag) (Wout : WX) (D : Ends) : List (Value × Nat × (Addr → Value → Option Addr → TS)) → WX
  | [] => Wout
  | (c, i, ts) :: r => fun cls d σ H =>
    ∃ b, PySem.W.exmOne K cls c = some b ∧ (b = true → ∀ a, H a = none → ts a cls d { nx := fun σ' H' => D.nx (σ'.set i none) H', rt := D.rt, bk := fun σ' H' => D.bk (σ'.set i none) H', ct := fun σ' H' => D.ct (σ'.set i none) H' } (σ.set i (some (.ref a))) H) ∧
      (b = false → wAsN K Wout D r cls d σ H)
inductive HdsAs (X : Cx) : List ExceptHandler → List (Value × Nat × (Addr → Value → Option Addr → TS)) → Prop
  | nil : HdsAs X [] []
  | cons {x n : Str} {c : Value} {i : Nat} {ts : Addr → Value → Option Addr → TS} {b₀ : Stmt} {suite : List Stmt} {np pos' : Pos} {hds : List ExceptHandler} {l : List (Value × Nat × (Addr → Value → Option Addr → TS))} (hi : X.N[i]? = some n) (hln : X.env.kindOf n = some .local) (hc : Names X x c)
      (hsu : ∀ (a : Addr) (oe : Obj) (cls : Value) (d : Option Addr) (pn : List (Addr × Obj)), Zc cls d oe → (∃ vs, oe.data = .fields vs) → PSs (X.suite a ((a, oe) :: pn)) (b₀ :: suite) (ts a cls d)) (r : HdsAs X hds l) :
      HdsAs X (.ExceptHandler (some (.Name x np)) (some n) (b₀ :: suite) pos' :: hds) ((c, i, ts) :: l)
section
variable {X : Cx} {body : List Stmt} {h₀ : ExceptHandler} {hds : List ExceptHandler} {l : List (Value × Nat × (Addr → Value → Option Addr → TS))} {pos : Pos} {tb : WX → TS} {Wout : WX}
theorem ps_try_asN (hs : X.stack = X.env :: X.outer) (hf : X.env.frame = some X.env.locals) (hN : X.N.Nodup) (tk : Takes X Wout)
    (hb : ∀ (W : WX) (pn : List (Addr × Obj)) (xe : Value → Shared → Prop), Takes (X.tr pn xe) W → PassesOwn (model X.prog X.w) X.A X.env xe → PSs (X.tr pn xe) body (tb W))
    (hh : HdsAs X (h₀ :: hds) l) : PS X (.Try body (h₀ :: hds) [] [] pos) (fun D σ H => tb (wAsN X.K Wout D l) D σ H) := by
  refine ⟨fun pins s σ H D I h => ?_⟩
  have ok := I.ok
  have hfr : X.A.frames = some (X.env :: X.outer) := by rw [ok.frames, hs]
  refine wpAny_Try_except ?_
  refine wpAny_mono ((hb (wAsN X.K Wout D l) (X.pn ++ pins) (fun e s₁ => wpAny (model X.prog X.w) X.A (noteFrame e X.env) (fun _ s₂ => wpAny (model X.prog X.w) X.A (setFlight e none) (fun _ s₃ =>
    wpAny (model X.prog X.w) X.A (handleBy e X.env (h₀ :: hds)) (SP X pins D) X.xe s₃) X.xe s₂) X.xe s₁) (fun u s' xx => ?_) PassesOwn.looking).run [] s σ H D (I.toTry _) h) (fun f s1 hsp => ?_) (fun e s1 he => he)
  · obtain ⟨a, B, sI, pins', σ', H', cls, d, rfl, J', nb, up, sky, na, os, ag, w⟩ := xx
    have J : Inv X pins σ' H' sI := J'.ofTry ok
    have sky' : Sky B (X.env :: X.outer) a (Zc cls d) X.env.locals s'.heap := by rw [← hs]; exact sky
    show wpAny (model X.prog X.w) X.A (noteFrame (.ref a) X.env) _ _ _
    refine Sky.land Zc.steady hfr hf sky' fun h3 fl3 up3 => ?_
    have J3 : Inv X pins σ' H' { s' with heap := h3 } := J.landed nb fl3.1 (up.trans up3) os ag
    obtain ⟨oe3, vs3, he3, hz3, hd3⟩ := fl3.there
    have notFr : ∀ {h : Heap} {o : Obj} {vs : Array Value}, h.FunFrames B (X.env :: X.outer) → h.get? a = some o → o.data = .fields vs → a ∉ frs (X.env :: X.outer) := fun {h o vs} ff e dd hm => by
      obtain ⟨_, o', e', hnf⟩ := ff.mem hm
      rw [e] at e'
      cases e'
      exact hnf _ dd
    have nfr := notFr fl3.2.2.1 he3 hd3
    have nL : a ≠ X.env.locals := fun z => nfr (List.mem_filterMap.mpr ⟨X.env, List.mem_cons_self, by rw [hf, z]⟩)
    have nF : a ∉ X.fs := fun hm => by
      obtain ⟨e, he, q⟩ := List.mem_filterMap.mp hm
      exact nfr (List.mem_filterMap.mpr ⟨e, List.mem_cons_of_mem _ he, q⟩)
    have S3 := J3.suite he3 hd3 na nL nF
    have go : ∀ {hds' : List ExceptHandler} {l' : List (Value × Nat × (Addr → Value → Option Addr → TS))}, HdsAs X hds' l' → wAsN X.K Wout D l' cls d σ' H' →
        wpAny (model X.prog X.w) X.A (handleBy (.ref a) X.env hds') (SP X pins D) X.xe { s' with heap := h3 } := by
      intro hds' l' hk
      induction hk with
      | nil =>
        intro w
        refine wpAny_handleBy_nil ?_
        obtain ⟨k1, k2, k3, oe, vs, T, oT, ts', he, hz, hd, h1, hr⟩ := id fl3
        unfold PySem.passOn
        refine wpAny_bind (wpAny_field he hd h1 ?_)
        rw [if_neg (show ¬ ((Value.ref T == Value.none) = true) from by simp)]
        have fin : wpAny (model X.prog X.w) X.A (setFlight (.ref a) X.env.frame) (fun _ s4 => wpAny (model X.prog X.w) X.A (throw (.ref a) : Sem Flow) (SP X pins D) X.xe s4) X.xe { s' with heap := h3 } := by
          rw [hf]
          refine HandSPX.setFlight_upZ fl3 fun h4 hh4 up4 => wpAny_throw (tk _ _ ?_)
          exact ⟨a, B, sI, pins, σ', H', cls, d, rfl, J, nb, (up.trans up3).trans up4, .inr (.inr (by rw [hs]; exact hh4)), na, os, ag, w⟩
        first
          | exact wpAny_bind (wpAny_pure (wpAny_bind fin))
          | exact wpAny_bind fin
      | @cons x n c i ts b₀ suite np pos' hds2 l2 hi hln hc hsu r ih =>
        intro w
        obtain ⟨b, hb1, hyes, hno⟩ := w
        refine wpAny_handleBy_cons (codeAny_handlers_test ?_) (by intro q; cases q)
        have LT : PySem.W.Looks (model X.prog X.w) h3 (typeOf (.ref a)) cls := fun A Q E s k q => wpAny_typeOf_ref (k _ _ he3) (by rw [hz3.1]; exact q)
        have LM := PySem.W.exm_one (M := model X.prog X.w) (J3.kIn) LT hb1
        have test : ∀ {Q : Value → Shared → Prop} {E : Value → Shared → Prop}, Q c { s' with heap := h3 } → wpAny (model X.prog X.w) (X.A.mark (some (.ref a))) (eval (.Name x np) X.env) Q E { s' with heap := h3 } := fun {Q E} q => by
          obtain ⟨hg, hdbg, hm | ⟨hm, hv, hnn⟩⟩ := hc
          · exact ld_glob (X := X.suite a ((a, oe3) :: (X.pn ++ pins))) S3 hg hm q hdbg
          · exact ld_blt (X := X.suite a ((a, oe3) :: (X.pn ++ pins))) S3 hg hm hv q hnn hdbg
        refine test (LM.here ?_)
        cases b with
        | true =>
          refine codeAny_handlers_suite_as ?_
          refine HandSPX.lands_againZ fl3 fun h4 fl4 up4 => ?_
          have J4 : Inv X pins σ' H' { s' with heap := h4 } := J.landed nb fl4.1 ((up.trans up3).trans up4) os ag
          obtain ⟨oe4, vs4, he4, hz4, hd4⟩ := fl4.there
          have S4 := J4.suite he4 hd4 na nL nF
          refine store_ok (X := X.suite a ((a, oe4) :: (X.pn ++ pins))) (v := .ref a) S4 hN hi (.inl hln) rfl (fun s5 S5 => ?_) (.inr hln)
          refine wpAny_mono ((hsu a oe4 cls d (X.pn ++ pins) hz4 ⟨_, hd4⟩).run [] s5 _ H' _ S5 (hyes rfl a na)) (fun f s6 hsp => ?_) (fun _ _ z => False.elim z)
          have end_ : ∀ {σ6 : L2.St} {H6 : Hp} {Q : Shared → Prop}, Inv (X.suite a ((a, oe4) :: (X.pn ++ pins))) [] σ6 H6 s6 → (∀ s7, Inv X pins (σ6.set i none) H6 s7 → Q s7) →
              wpAny (model X.prog X.w) X.A (do bindName X.env n .none; unbindBehindTheSuite X.env n pos') (fun _ s7 => Q s7) X.xe s6 := fun {σ6 H6 Q} S6 hq => gone_ok (S6.unsuite ok) hN hi hln hq
          cases f with
          | next =>
            obtain ⟨σ6, H6, S6, q6⟩ := hsp
            exact end_ S6 fun s7 J7 => ⟨_, _, J7, q6⟩
          | brk =>
            obtain ⟨σ6, H6, S6, q6⟩ := hsp
            exact end_ S6 fun s7 J7 => ⟨_, _, J7, q6⟩
          | cont =>
            obtain ⟨σ6, H6, S6, q6⟩ := hsp
            exact end_ S6 fun s7 J7 => ⟨_, _, J7, q6⟩
          | ret u =>
            obtain ⟨v6, σ6, H6, S6, r6, q6⟩ := hsp
            exact end_ S6 fun s7 J7 => ⟨_, _, _, J7, r6, q6⟩
        | false =>
          show wpAny _ X.A (handleBy (.ref a) X.env hds2) _ _ _
          exact ih (hno rfl)
    exact go hh w
  · cases f with
    | next =>
      obtain ⟨σ', H', J', q⟩ := hsp
      exact wpAny_execs_nil ⟨σ', H', J'.ofTry ok, q⟩
    | brk =>
      obtain ⟨σ', H', J', q⟩ := hsp
      exact ⟨σ', H', J'.ofTry ok, q⟩
    | cont =>
      obtain ⟨σ', H', J', q⟩ := hsp
      exact ⟨σ', H', J'.ofTry ok, q⟩
    | ret u =>
      obtain ⟨v, σ', H', J', r, q⟩ := hsp
      exact ⟨v, σ', H', J'.ofTry ok, r, q⟩
end
end My
set_option Elab.async false
set_option linter.all false
set_option maxRecDepth 100000
set_option maxHeartbeats 4000000
/-! Defs under which repr may be asked: no repr is under way. -/
namespace My
open PySem PySem.Spec PyProof.Rows L2
structure FnOkG (P : Program) (w : World) (K : PySem.W.Frag) (mg : Str → Option Value) (base : Heap) (CX : CXT) (k : Nat) (f : Addr) (fd : FuncData) (ps : List Str) (sp : Sp) : Prop where
  len : ∀ vs H Q E, sp vs H Q E → vs.length = ps.length
  run : ∀ (A : Around) (outer : List Env) (s : Shared) (H : Hp) (args : Args) (us : List Value) (vs : List V) (Q : VK) (E : XK), Room k A → A.guards = some [] → Env0 P w K mg base A outer s H → BindsTo s fd args (ps.zip us) → Vals vs us → sp vs H Q E →
    codeAny (model P w) A (.call (.ref f) args) (CR CX outer P w H s Q E) s
theorem fn_ofG {CX : CXT} {P : Program} {w : World} {K : PySem.W.Frag} {mg : Str → Option Value} {base : Heap} {k : Nat} {f : Addr} {name qual : Str} {params : Arguments} {body : List Stmt} {scope : Scope} {dV kV doc pm cdv ct oc : Value} {an od : Option Addr}
    {osl : Array (Option Value)} {N ps : List Str} {sp : Sp} (lk : K.lookup f = some ⟨oc, od, .func (PySem.W.fnOf name qual params body scope dV kV doc pm an cdv ct), osl⟩) (hcd : PySem.W.codeIn K cdv qual = true) (S : FnScope N ps scope)
    (len : ∀ vs H Q E, sp vs H Q E → vs.length = ps.length)
    (hbody : ∀ (A : Around) (outer : List Env) (s : Shared) (H : Hp) (vs : List V) (Q : VK) (E : XK), Room k (A.deeper (envOfC qual scope s.heap.objs.size f cdv)) → A.guards = some [] → sp vs H Q E →
      ∃ t, PSs (cxOf CX P w K mg base N qual scope f cdv A outer s H E) body t ∧ t { nx := fun _ H' => Q .non H', rt := Q } (start N vs) H) :
    FnOkG P w K mg base CX (k + 1) f (PySem.W.fnOf name qual params body scope dV kV doc pm an cdv ct) ps sp := by
  refine ⟨len, fun A outer s H args us vs Q E hr hg e0 hb r hsp => ?_⟩
  have hl := len _ _ _ _ hsp
  have KX : K.In s.heap := e0.mod.kin.keeps fun b o e => (e0.bs b o e).1
  have lim : s.heap.NoLimit := e0.mod.nolimit.keeps fun b o e => (e0.bs b o e).1
  refine codeAny_call_function hr.depth (KX _ _ lk) rfl S.co S.gen rfl (PySem.W.codeRec_of KX hcd) (hb _ _ _ _ ?_)
  refine wpAny_newFunctionEnv_cells S.kind (fun ⟨n, v⟩ hy => ?_) fun env he s1 x => ?_
  · rcases S.par n (List.of_mem_zip hy).1 with q | q
    · exact .inl q
    · exact .inr ⟨q, PySem.W.cellsFrom_some _ _ _ (.inl q)⟩
  subst he
  refine ⟨lim.keeps x.toInCall.keep, codeAny_func ?_⟩
  obtain ⟨t, ht, hq⟩ := hbody A outer s H vs Q E (hr.deeper _) hg hsp
  have I : Inv (cxOf CX P w K mg base N qual scope f cdv A outer s H E) [] (start N vs) H s1 := inv_start S hr.hd e0 hl r x
  refine wpAny_mono (ht.run [] s1 (start N vs) H _ I hq) (fun fl s' hs => ?_) fun e s' hs => hs
  cases fl with
  | ret u =>
    obtain ⟨v, σ', H', J, rv, q⟩ := hs
    exact ⟨v, H', J.os, J.bare, J.base, J.hok, rv, q⟩
  | next =>
    obtain ⟨σ', H', J, q⟩ := hs
    exact ⟨.non, H', J.os, J.bare, J.base, J.hok, rfl, q⟩
  | brk =>
    obtain ⟨_, _, _, q⟩ := hs
    exact False.elim q
  | cont =>
    obtain ⟨_, _, _, q⟩ := hs
    exact False.elim q
section
variable {P : Program} {w : World} {K : PySem.W.Frag} {mg : Str → Option Value} {base : Heap}
theorem _root_.L2.Fun.okG {x qual : Str} {st : Stmt} {f : Addr} {fd : FuncData} {N ps : List Str} {k : Nat} {sp : Sp} (F : Fun K x qual st f fd) (S : FnScope N ps (defScope st)) (len : ∀ vs H Q E, sp vs H Q E → vs.length = ps.length)
    (hbody : ∀ (cdv : Value) (A : Around) (outer : List Env) (s : Shared) (H : Hp) (vs : List V) (Q : VK) (E : XK), Room k (A.deeper (envOfC qual (defScope st) s.heap.objs.size f cdv)) → A.guards = some [] → sp vs H Q E →
      ∃ t, PSs (cxOf CX0 P w K mg base N qual (defScope st) f cdv A outer s H E).nox (defBody st) t ∧ t { nx := fun _ H' => Q .non H', rt := Q } (start N vs) H) : FnOkG P w K mg base CX0 (k + 1) f fd ps sp := by
  obtain ⟨oc, od, kV, doc, pm, an, cdv, ct, osl, rfl, lk, hcd⟩ := F.ex
  refine fn_ofG lk hcd S len fun A outer s H vs Q E hr hg hsp => ?_
  obtain ⟨t, h, q⟩ := hbody cdv A outer s H vs Q E hr hg hsp
  exact ⟨t, h.nox, q⟩
end
section
variable {X : Cx} {CX : CXT} {k : Nat} {f : Addr} {fd : FuncData} {ps : List Str} {sp : Sp} {dvs : List V} {ds : List Value} {E : XK} {x : Str} {p pos : Pos} {e : Expr} {es : List Expr} {t : TA}
theorem pe_callG (F : FnOkG X.prog X.w X.K X.mg X.base CX k f fd ps sp) (hr : Room k X.A) (gd : X.A.guards = some []) (hg : Gl X x) (hm : X.mg x = some (.ref f)) (hk : PySem.W.keepIn X.K (.ref f) = true) (hb : Binds X.K fd ps ds) (hd : Vals dvs ds) (hx : Passes CX X E)
    (ha : PA X (e :: es) t) (hdb : (x == ("__debug__" : Str)) = false := by decide) (he : starEach (e :: es) X.env = (false, eval e X.env) :: starEach es X.env := by rfl) (hpl : (backTo pos (starEach es X.env)).any (·.1) = false := by rfl) :
    PE X (.Call (.Name x p) (e :: es) [] pos) (tCall sp dvs E t) := by
  refine ⟨fun pins s σ H Q I h => ?_⟩
  refine wpAny_Call_Name_kw (ld_glob I hg hm ?_ hdb)
  refine PySem.W.callWith_K (h₀ := X.base) I.ok.mod.kin hk (thn (ha.run pos pins s σ H _ I h) fun us s1 ⟨vs, H1, I1, r, q⟩ => ⟨I1.kIn, ?_⟩) he hpl
  have r2 : Vals (vs ++ dvs) (us ++ ds) := r.append hd
  have hl : (us ++ ds).length = ps.length := by rw [← r2.length]; exact F.len _ _ _ _ q
  refine wpAny_call (codeAny_mono (F.run X.A X.stack s1 H1 ⟨us, []⟩ (us ++ ds) (vs ++ dvs) Q E hr gd I1.env0 (hb s1 us I1.kIn hl) r2 q) fun r s' hq => ?_)
  cases r with
  | error e => exact hx pins σ H1 s1 e s' I1 hq
  | ok fl =>
    cases fl with
    | ret u => exact I1.after hq
    | next => exact False.elim hq
    | brk => exact False.elim hq
    | cont => exact False.elim hq
/-- repr of data without dicts -/
def rRepr (K : PySem.W.Frag) : List V → Hp → VK → Prop := fun vs H Q => ∃ (v : V) (d : PyData), vs = [v] ∧ Dp K H v d ∧ d.showable = true ∧ d.hasDict = false ∧ d.depth ≤ 60 ∧ d.shown.length ≤ sizeLine ∧ (∃ a, v = .ref a) ∧ Q (.str d.shown) H
theorem cr_repr (gd : X.A.guards = some []) (hu : X.A.units + 64 < cLine) : CallR X (.builtin "repr") (rRepr X.K) := by
  intro pins s σ H vs us Q I r h
  obtain ⟨v, d, rfl, hd, h1, h2, h3, h4, ⟨a, rfl⟩, q⟩ := h
  rw [Vals.ref1 r]
  obtain ⟨as, rd⟩ := Dp.reads I d (.ref a) (.ref a) hd rfl
  exact repr_of_reads' rd h1 (fun z => by rw [h2] at z; cases z) gd (by omega) (fun b o e => e) (fun h' u tk hk => ⟨.str d.shown, H, I.kept hk, ⟨_, rfl⟩, q⟩) h4
end
/-! ### the head: nothing of repr is under way where the law is called -/
theorem law_callG {P : Program} {w : World} {K : PySem.W.Frag} {mg mb : Str → Option Value} {CX : CXT} {k : Nat} {fa a : Addr} {fd : FuncData} {x : Str} {sp : Sp} {s₁ : Shared} {vs : List Value} {ns : List Int}
    (KX : K.In s₁.heap) (hns : s₁.heap.Ns mainGlobals mg) (hb : s₁.heap.Ns builtinsNs mb) (hbb : ∀ x : Str, x ≠ "__name__" → mb x = bootBuiltins x) (hlim : s₁.heap.NoLimit) (hg : s₁.gens = #[])
    (ha : s₁.heap.get? a = some { cls := .type "list", data := .seq vs.toArray }) (hi : IntsAre vs ns) (hl : ns.length ≤ sizeLine) (hr : Room k callerA)
    (F : ∀ base : Heap, K.In base → base.Ns mainGlobals mg → FnOkG P w K mg base CX k fa fd [x] sp) (hbind : ∀ (s : Shared) (u : Value), BindsTo s fd ⟨[u], []⟩ [(x, u)])
    (hsp : ∀ H : Hp, Only H → SqL K H a (ns.map V.int) → sp [.ref a] H (fun v _ => v = .bl true) fun _ _ _ => False)
    (hCX : ∀ H e s', CX [] H s₁ (fun _ _ _ => False) e s' → False) :
    codeAny (model P w) callerA (.call (.ref fa) ⟨[.ref a], []⟩) (fun r s' => r = .ok (.ret (.bool true)) ∧ OldK s₁.heap s'.heap ∧ s'.os = s₁.os ∧ AllBare s'.gens) s₁ := by
  have rv := vals_ints hi
  have lenV := hi.length
  have core : ∀ H : Hp, Only H → SqL K H a (ns.map V.int) → HOk P w H s₁.heap → (∀ b, H b ≠ none → b = a) → (H a ≠ none → K.lookup a = none) →
      codeAny (model P w) callerA (.call (.ref fa) ⟨[.ref a], []⟩) (fun r s' => r = .ok (.ret (.bool true)) ∧ OldK s₁.heap s'.heap ∧ s'.os = s₁.os ∧ AllBare s'.gens) s₁ := by
    intro H hO hS hok hA hK
    have free : ∀ {b : Addr} {P : Prop}, (∀ u, H b = some u → b = a → P → False) → P → H b = none := fun {b P} h p => by
      cases q : H b with
      | none => rfl
      | some u => exact (h u q (hA b (by rw [q]; simp)) p).elim
    have noA : ∀ {b : Addr} {o : Obj} {es : Array DictEntry} {ep : Nat}, s₁.heap.get? b = some o → o.data = .dict es ep → H b = none := fun {b o es ep} e d => free (P := True) (fun u q e' _ => by
      subst e'
      rw [ha] at e
      cases e
      cases d) trivial
    have nsK : ∀ {b : Addr} {m : Str → Option Value}, s₁.heap.Ns b m → (hidT s₁.heap H).Ns b m := fun {b m} ⟨o, es, ep, e, d, r⟩ => ⟨o, es, ep, hidT_get e (noA e d), d, r⟩
    have hKb : K.In (hidT s₁.heap H) := fun b o e => hidT_get (KX b o e) (free (P := True) (fun u q e' _ => by
      subst e'
      rw [hK (by rw [q]; simp)] at e
      cases e) trivial)
    have hM : Mod K mg (hidT s₁.heap H) := ⟨hKb, nsK hns, ⟨mb, nsK hb, hbb⟩, let ⟨mc, h1, h2⟩ := hlim; ⟨mc, nsK h1, h2⟩⟩
    have e0 : Env0 P w K mg (hidT s₁.heap H) callerA [] s₁ H := ⟨rfl, hM, fun b o e => of_hidT e, Nat.le_of_eq (hidT_size _ _), trivial, fun b hb => absurd (show b ∈ ([] : List Addr) from hb) (by simp), hok, .of_eq hg⟩
    refine codeAny_mono ((F _ hKb (nsK hns)).run callerA [] s₁ H ⟨[.ref a], []⟩ [.ref a] [.ref a] _ _ hr rfl e0 (hbind s₁ (.ref a)) (.cons rfl .nil) (hsp H hO hS)) fun r s' h => ?_
    cases r with
    | error e => exact (hCX H e s' h).elim
    | ok fl =>
      cases fl with
      | next => exact False.elim h
      | brk => exact False.elim h
      | cont => exact False.elim h
      | ret u =>
        obtain ⟨v, H', os, bare, un, hok', r', q⟩ := h
        have q' : v = .bl true := q
        subst q'
        obtain rfl : u = Value.bool true := r'
        refine ⟨rfl, OldK.of_keep fun b o e => ?_, os, bare⟩
        rcases hO b with z | ⟨ob, xs, z⟩
        · exact un.keep b o e z (by intro z; exact absurd (show b ∈ ([] : List Addr) from z) (by simp)) (by simp)
        · have z2 := un.frzs b ob _ z
          obtain ⟨e1, _⟩ := hok b _ z
          obtain ⟨e2, _⟩ := hok' b _ z2
          rw [e] at e1
          cases e1
          exact e2
  cases hk : K.lookup a with
  | some o =>
    have e := KX a o hk
    rw [ha] at e
    cases e
    exact core (fun _ => none) (fun _ => .inl rfl) (.inr ⟨_, vs.toArray, _, hk, rfl, rfl, rfl, by rw [List.size_toArray, lenV]; exact hl, by simpa using rv⟩) (fun b u z => nomatch (show (none : Option HO) = some u from z)) (fun b z => absurd rfl z) fun z => absurd rfl z
  | none =>
    refine core (fun b => if b = a then some (.frz { cls := .type "list", data := .seq vs.toArray } (.lst (ns.map V.int))) else none) (fun b => ?_) (.inl (.inr ⟨{ cls := .type "list", data := .seq vs.toArray }, if_pos rfl⟩)) (fun b u z => ?_) (fun b z => ?_) fun _ => hk
    · by_cases hb : b = a
      · exact .inr ⟨_, _, if_pos hb⟩
      · exact .inl (if_neg hb)
    · by_cases hb : b = a
      · have z' := (if_pos hb).symm.trans z
        cases z'
        subst hb
        exact ⟨ha, by rw [List.length_map]; exact hl, vs, _, rv, ha⟩
      · have z' := (if_neg hb).symm.trans z
        cases z'
    · by_cases hb : b = a
      · exact hb
      · exact absurd (if_neg hb) z
theorem walk_ofG {l : PySem.W.OpenLaw} {n k : Nat} {q : Program} {loose : List Str} {XP : (Str → Option Value) → Heap → Prop} {YP : World → Heap → Prop} {d : DefRec} {K : Params → PySem.W.Frag} {CX : World → CXT} {sp : World → Sp} {x : Str}
    (hn : l.most = some n) (hn2 : n ≤ sizeLine) (hdf : d.params.defaults = []) (hr : Room k callerA)
    (hY : ∀ (w : World) (h : Heap), YP w h → (K w.params).In h)
    (F : ∀ (w : World) (mg : Str → Option Value) (fa : Addr) (h : Heap), (K w.params).In h → h.Ns mainGlobals mg → mg d.name = some (.ref fa) →
      ∃ fd : FuncData, (∀ (s : Shared) (u : Value), BindsTo s fd ⟨[u], []⟩ [(x, u)]) ∧
        ∀ base : Heap, (K w.params).In base → base.Ns mainGlobals mg → FnOkG l.prog w (K w.params) mg base (CX w) k fa fd [x] (sp w))
    (hsp : ∀ (w : World) (H : Hp) (a : Addr) (ns : List Int), ns.length ≤ n → Only H → SqL (K w.params) H a (ns.map V.int) → sp w [.ref a] H (fun v _ => v = .bl true) fun _ _ _ => False)
    (hCX : ∀ (w : World) (H : Hp) (s : Shared) (e : Value) (s' : Shared), CX w [] H s (fun _ _ _ => False) e s' → False) :
    PySem.W.WalkO q loose XP YP l.row.toRowW d [] (fun f vs => PySem.call f vs) := by
  refine Att.attach_call hn hdf fun w s₀ s₁ mg mb fa o pm cd doc a vs ns G Y ho hd hcd hmg hobj hints hlen hg => ?_
  have KX := hY w _ Y
  obtain ⟨fd, hb, hF⟩ := F w mg fa _ KX G.T.g hmg
  exact law_callG KX G.T.g G.T.b G.T.builtins G.T.nolimit hg hobj hints (Nat.le_trans hlen hn2) hr hF hb (fun H hO hS => hsp w H a ns hlen hO hS) fun H e s' => hCX w H s₁ e s'
end My
set_option Elab.async false
set_option linter.all false
set_option maxRecDepth 100000
set_option maxHeartbeats 4000000
/-! sorted(d) of a dict whose keys are ints. -/
namespace My
open PySem PySem.Spec PyProof.Rows L2
theorem len_dict : typeLookup (.type "dict") "__len__" = pure (some (.builtin "dict.__len__")) := by rw [typeLookup_type, builtinLookup_eq_fast]; kernel_rfl
section
variable {prog : Program} {w : World} {A : Around} {E : Value → Shared → Prop} {s : Shared} {d : Addr} {od : Obj} {es : Array DictEntry} {ep : Nat}
theorem dict_hint (hT : s.TypeIs (.ref d) "dict") {Q : Bool → Shared → Prop} (h : Q false s) : wpAny (model prog w) A (Builtin.List.listLengthHint (.ref d)) Q E s := by
  unfold Builtin.List.listLengthHint
  refine wpAny_bind (wpAny_specialOf hT len_dict ?_)
  generalize hid : ("dict.__len__" : String) = id0
  wp_delta
  rw [show splitId id0 = some ("dict", "__len__") from by subst hid; decide +kernel]
  subst hid
  refine wpAny_bind (wpAny_isInstance (T := "dict") (b := true) hT (by rw [isSubtype_type]; kernel_rfl) ?_)
  refine wpAny_ite_split (fun hab => absurd hab (by decide)) (fun _ => ?_)
  refine wpAny_ite_split (fun _ => ?_) (fun hab => absurd (by decide +kernel) hab)
  refine wpAny_bind (wpAny_typeOf hT ?_)
  exact wpAny_pure h
/-- the loop that takes the keys -/
theorem loopD {R : Result → Shared → Prop} {S I : Addr} (hh : A.handled = none) (hSI : S ≠ I) (hSd : d ≠ S) (hId : d ≠ I) (hn : es.size ≤ sizeLine) (res : Value) {h₁ : Heap} (hdd : od.data = .dict es ep)
    (hR : ∀ h' c, (∀ b o, b ≠ S → b ≠ I → h₁.get? b = some o → h'.get? b = some o) → h'.get? S = some { cls := .type "list", dict := none, data := .seq (es.map (·.key)) c, slots := #[] } → R (.ok (.ret res)) { s with heap := h' }) :
    ∀ (k i : Nat) (h : Heap) (c : Nat) (acc : Array Value), es.size - i = k → i ≤ es.size → h.IsKeyIter I d i es.size ep → h.get? d = some od → (∀ b o, b ≠ S → b ≠ I → h₁.get? b = some o → h.get? b = some o) →
      h.get? S = some { cls := .type "list", dict := none, data := .seq acc c, slots := #[] } → acc.toList = (es.toList.take i).map (·.key) →
      codeAny (model prog w) A (.builtin "list.extend.loop" ⟨[.ref S, .ref I, res], []⟩) R { s with heap := h } := by
  intro k
  induction k with
  | zero =>
    intro i h c acc hk hi hst hD hkeep hS hacc
    refine codeAny_builtin PySem.F.entry_extend_loop ?_
    rw [Around.under_plainId PySem.F.plain_extend_loop _]
    show wpAny _ A.in1 (pyNext (.ref I) >>= _) _ _ _
    refine wpAny_bind (next_key_end (s := { s with heap := h }) (A := A.in1) hh hst hD hdd rfl (by omega) fun h' he => ?_)
    have ea : acc = es.map (·.key) := by
      apply Array.toList_inj.mp
      rw [hacc, List.take_of_length_le (by rw [Array.length_toList]; omega), Array.toList_map]
    rw [ea] at hS
    exact wpAny_pure (hR h' c (fun b o h1 h2 e => he b o h2 (hkeep b o h1 h2 e)) (he S _ hSI hS))
  | succ k ih =>
    intro i h c acc hk hi hst hD hkeep hS hacc
    have hlt : i < es.size := by omega
    have hsz : acc.size = i := by rw [← Array.length_toList, hacc, List.length_map, List.length_take, Array.length_toList]; omega
    refine codeAny_builtin PySem.F.entry_extend_loop ?_
    rw [Around.under_plainId PySem.F.plain_extend_loop _]
    show wpAny _ A.in1 (pyNext (.ref I) >>= _) _ _ _
    refine wpAny_bind (next_key_item (s := { s with heap := h }) (en := es[i]) hst hD hdd rfl (Array.getElem?_eq_getElem hlt) fun h' hst' hs' => ?_)
    have hS' := hs'.extBut S _ hSI hS
    have up : ∀ b o, b ≠ S → h'.get? b = some o → (h'.update S (Obj.mapSeq (·.push es[i].key))).get? b = some o := fun b o hb e => (Heap.get?_update_other _ _ (Ne.symm hb)).trans e
    show wpAny _ A.in1 (updateSeq S (·.push es[i].key) >>= _) _ _ _
    refine wpAny_bind ?_
    refine wpAny_updateSeq hS' rfl (wpAny_pure ⟨plainId_quiet PySem.F.plain_extend_loop _, ih (i + 1) _ _ (acc.push es[i].key) (by omega) hlt (hst'.at fun o e => up _ o hSI.symm e) (up d _ hSd (hs'.extBut d _ hId hD))
      (fun b o h1 h2 e => up b o h1 (hs'.extBut b _ h2 (hkeep b o h1 h2 e))) (Heap.get?_update_self _ hS' rfl) ?_⟩) (by rw [hsz]; omega) (by show (acc.push es[i].key).size ≤ sizeLine + 1; rw [Array.size_push, hsz]; omega)
    rw [Array.toList_push, hacc, List.take_add_one, Array.getElem?_toList, Array.getElem?_eq_getElem hlt, List.map_append]
    rfl
theorem extD {R : Result → Shared → Prop} {P2 : Program} {κ : Type} [DecidableEq κ] {knd : PySem.KeyKind prog w κ} {kvs : List (κ × Value)} (hh : A.handled = none) (hsys : (d == sysModules) = false) (hm : s.heap.DictAt knd d kvs ep) (ho : s.heap.get? d = some od) (hdd : od.data = .dict es ep) (hk : kvs.length = es.size) (S : Addr) (hSd : d ≠ S) (res : Value) (c₀ : Nat) (hS : s.heap.get? S = some { cls := .type "list", data := .seq #[] c₀ })
    (hR : ∀ h' c, (∀ b o, b ≠ S → s.heap.get? b = some o → h'.get? b = some o) → h'.get? S = some { cls := .type "list", dict := none, data := .seq (es.map (·.key)) c, slots := #[] } → R (.ok (.ret res)) { s with heap := h' }) (hn : es.size ≤ sizeLine) :
    wpAny (model prog w) A.in1 (Builtin.List.listExtendWith (.ref S) (.ref d) res)
      (fun fin s' => match fin with | .done f => R (.ok f) s' | .again c' => c'.quiet = true ∧ codeAny (model prog w) A c' R s') (fun e s' => R (.error e) s') s := by
  have hSI : S < s.heap.objs.size := Heap.lt_size hS
  have hdI : d < s.heap.objs.size := Heap.lt_size ho
  have hT : s.TypeIs (.ref d) "dict" := hm.dictOf.typeIs
  have key : ∀ (h : Heap) (c₁ : Nat), (∀ b o, b ≠ S → (s.heap.push { cls := .type "dict_keyiterator", data := .fields #[.ref d, .int 0 0, .int kvs.length 0, .int ep 0] }).get? b = some o → h.get? b = some o) →
      h.get? S = some { cls := .type "list", data := .seq #[] c₁ } → codeAny (model prog w) A (.builtin "list.extend.loop" ⟨[.ref S, .ref s.heap.objs.size, res], []⟩) R { s with heap := h } := by
    intro h c₁ hk' hS₁
    have hI := hk' s.heap.objs.size _ (Nat.ne_of_gt hSI) (Heap.get?_push_size _ rfl)
    rw [hk] at hI
    exact loopD (s := s) (h₁ := s.heap) hh (Nat.ne_of_lt hSI) hSd (Nat.ne_of_lt hdI) hn res hdd (fun h' c hk2 hS2 => hR h' c (fun b o hb e => hk2 b o hb (Nat.ne_of_lt (Heap.lt_size e)) e) hS2)
      es.size 0 h c₁ #[] (Nat.sub_zero _) (Nat.zero_le _) ⟨_, hI, rfl, rfl⟩ (hk' d _ hSd (Heap.get?_push_of_some _ ho)) (fun b o hb _ e => hk' b o hb (Heap.get?_push_of_some _ e)) hS₁ rfl
  unfold Builtin.List.listExtendWith
  refine wpAny_bind (wpAny_typeOf (T := "dict") hT ?_)
  have h1 : Builtin.List.listSameRef (.ref S) (.ref d) = false := by simp [Builtin.List.listSameRef, Ne.symm hSd]
  have h2 : (Value.type "dict" == Value.type "list") = false := by decide
  have h3 : (Value.type "dict" == Value.type "tuple") = false := by decide
  simp only [h1, h2, h3, Bool.or_false, Bool.false_eq_true, if_false]
  refine wpAny_bind (wpAny_pyIter_dict hsys hm ?_)
  have hS₁ := Heap.get?_push_of_some { cls := .type "dict_keyiterator", data := .fields #[.ref d, .int 0 0, .int kvs.length 0, .int ep 0] } hS
  refine wpAny_bind (wpAny_holding (dict_hint (let ⟨o, ho, hc⟩ := hT; ⟨o, Heap.get?_push_of_some _ ho, hc⟩) ?_))
  refine wpAny_ite_split (fun _ => ?_) (fun _ => wpAny_pure ⟨plainId_quiet PySem.F.plain_extend_loop _, key _ c₀ (fun b o _ e => e) hS₁⟩)
  refine wpAny_bind (wpAny_rule ?_)
  refine wpAny_bind ?_
  show wpAny _ _ (updateSeq S (·.push .none) >>= fun _ => updateSeq S (·.pop)) _ _ _
  refine wpAny_bind (wpAny_updateSeq hS₁ rfl ?_)
  have hS₂ := Heap.get?_update_self (Obj.mapSeq (·.push Value.none)) hS₁ rfl
  refine wpAny_updateSeq (hz := by seq_fits) hS₂ rfl ?_
  have hS₃ := Heap.get?_update_self (Obj.mapSeq (·.pop)) hS₂ rfl
  refine wpAny_pure ⟨plainId_quiet PySem.F.plain_extend_loop _, key _ _ (fun b o hb e => ?_) hS₃⟩
  exact (Heap.get?_update_other _ _ (Ne.symm hb)).trans ((Heap.get?_update_other _ _ (Ne.symm hb)).trans e)
theorem collectD {R : List Value → Shared → Prop} {κ : Type} [DecidableEq κ] {knd : PySem.KeyKind prog w κ} {kvs : List (κ × Value)} (hh : A.handled = none) (hsys : (d == sysModules) = false) (hm : s.heap.DictAt knd d kvs ep) (ho : s.heap.get? d = some od) (hdd : od.data = .dict es ep) (hk : kvs.length = es.size) (hn : es.size ≤ sizeLine)
    (h : ∀ (h' : Heap), (∀ b o, s.heap.get? b = some o → h'.get? b = some o) → s.heap.objs.size < h'.objs.size → R (es.toList.map (·.key)) { s with heap := h' }) :
    wpAny (model prog w) A (collect (.ref d)) R E s := by
  have hd : d < s.heap.objs.size := Heap.lt_size ho
  unfold collect
  refine wpAny_bind (wpAny_runValue (codeAny_builtin entry_proto_collect' ?_))
  rw [Around.under_plainId PySem.F.plain_proto_collect _]
  show wpAny _ A.in1 (newList [] >>= fun l => again (.builtin "list.__iadd__" ⟨[l, .ref d], []⟩)) _ _ s
  refine wpAny_bind (wpAny_newObj_type ?_)
  refine wpAny_pure ⟨plainId_quiet PySem.F.plain_list_iadd _, codeAny_builtin entry_list_iadd' ?_⟩
  rw [Around.under_plainId PySem.F.plain_list_iadd _]
  have hS₁ : (s.heap.push { cls := .type "list", data := .seq ([] : List Value).toArray }).get? s.heap.objs.size = some { cls := .type "list", data := .seq #[] } := Heap.get?_push_size _ rfl
  show wpAny _ A.in1 (Builtin.List.listExtendWith (.ref s.heap.objs.size) (.ref d) (.ref s.heap.objs.size)) _ _ _
  have key := extD (prog := prog) (w := w) (A := A) (P2 := prog) (s := { s with heap := s.heap.push { cls := .type "list", data := .seq ([] : List Value).toArray } }) (es := es) (ep := ep) (od := od) (knd := knd) (kvs := kvs)
    (R := fun (q : Result) (s' : Shared) => ∃ (h' : Heap) (c' : Nat), q = .ok (.ret (.ref s.heap.objs.size)) ∧ s' = { s with heap := h' } ∧
      (∀ b o, s.heap.get? b = some o → h'.get? b = some o) ∧ h'.get? s.heap.objs.size = some { cls := .type "list", dict := none, data := .seq (es.map (·.key)) c', slots := #[] })
    hh hsys (hm.push _) (Heap.get?_push_of_some _ ho) hdd hk s.heap.objs.size (Nat.ne_of_lt hd) (.ref s.heap.objs.size) 0 hS₁
    (fun h' c' hk2 hS' => ⟨h', c', rfl, rfl, fun b o e => hk2 b o (Nat.ne_of_lt (Heap.lt_size e)) (Heap.get?_push_of_some _ e), hS'⟩) hn
  have fin : ∀ (h' : Heap) (c' : Nat), (∀ b o, s.heap.get? b = some o → h'.get? b = some o) → h'.get? s.heap.objs.size = some { cls := .type "list", dict := none, data := .seq (es.map (·.key)) c', slots := #[] } → R (es.map (·.key)).toList { s with heap := h' } := fun h' c' hk2 hS' => by
    rw [Array.toList_map]
    exact h h' hk2 (Heap.lt_size hS')
  refine wpAny_mono key (fun fn s' x => ?_) fun e s' x => ?_
  · cases fn with
    | done f =>
      obtain ⟨h', c', e, rfl, hk2, hS'⟩ := x
      cases e
      show wpAny _ A (load s.heap.objs.size >>= _) _ _ _
      refine wpAny_bind (wpAny_load hS' ?_)
      exact wpAny_pure (fin h' c' hk2 hS')
    | again c₁ =>
      refine ⟨x.1, codeAny_mono x.2 fun q s₂ y => ?_⟩
      obtain ⟨h', c', rfl, rfl, hk2, hS'⟩ := y
      show wpAny _ A (load s.heap.objs.size >>= _) _ _ _
      refine wpAny_bind (wpAny_load hS' ?_)
      exact wpAny_pure (fin h' c' hk2 hS')
  · obtain ⟨_, _, e', _⟩ := x
    cases e'
end
section
variable {X : Cx}
theorem keys_of {P : Program} {w : World} : ∀ {es : List DictEntry} {kvs : List (Key × Value)}, Pairs (mixKind P w) es kvs → es.length = kvs.length ∧ ∀ ns : List Int, kvs.map (·.1) = ns.map Sum.inl → IntsAre (es.map (·.key)) ns
  | _, _, .nil => ⟨rfl, fun ns h => by
    cases ns with
    | nil => exact .nil
    | cons n ns => cases h⟩
  | _, _, .cons hk hv hp => by
    obtain ⟨h1, h2⟩ := keys_of hp
    refine ⟨by simp [h1], fun ns h => ?_⟩
    cases ns with
    | nil => cases h
    | cons n ns =>
      injection h with e1 e2
      dsimp only at e1
      rcases keyIs_shape hk with ⟨i, t, h3, h4⟩ | ⟨x, t, h3, h4⟩
      · rw [h3] at e1
        cases e1
        rw [List.map_cons, h4]
        exact .cons _ _ (h2 ns e2)
      · rw [h3] at e1
        cases e1
/-- sorted(d), the keys ints -/
def rSortedD : List V → Hp → VK → Prop := fun vs H Q => ∃ (a : Addr) (kvs : List (Key × V)) (ns : List Int), vs = [V.ref a] ∧ H a = some (.dK kvs) ∧ kvs.map (·.1) = ns.map Sum.inl ∧ ∀ ns' : List Int, ns'.Perm ns → ns'.Pairwise (· ≤ ·) → New (.lst (ns'.map V.int)) H Q
theorem cr_sortedD (hc : X.calm = true) : CallR X (.builtin "sorted") rSortedD := by
  intro pins s σ H vs us Q I r h
  obtain ⟨a, kvs, ns, rfl, ha, hk, q⟩ := h
  rw [Vals.ref1 r]
  obtain ⟨z, hsys, vs, rel, dd⟩ := dk_of I.hok ha
  obtain ⟨ep, dat⟩ := dd.dictAt
  obtain ⟨od, es, ho, hex, hdat, hks, hp, hnd⟩ := id dat
  obtain ⟨l1, hi⟩ := keys_of hp
  have ek : vs.map (·.1) = kvs.map (·.1) := by
    have : ∀ {kvs : List (Key × V)} {vs : List (Key × Value)}, KV kvs vs → vs.map (·.1) = kvs.map (·.1) := fun rel => by
      induction rel with
      | nil => rfl
      | cons h _ ih => rw [List.map_cons, List.map_cons, ih, h.1]
    exact this rel
  have hI := hi ns (ek.trans hk)
  have lk : vs.length = es.size := by rw [← l1, Array.length_toList]
  have lz : es.size ≤ sizeLine := by
    rw [← lk, ← List.length_map (f := (·.1)), ek, List.length_map]
    exact z
  refine Calls.call_function_entry kind_sorted plain_sorted entry_sorted (args_sorted1 _) ?_
  unfold Builtin.«sorted»
  refine wpAny_bind (m := checkCount "sorted" 1 1 _) (wpAny_pure ?_)
  refine wpAny_bind (collectD (A := X.A.in1) (I.ok.hd hc) hsys dat ho hdat lk lz fun h' hk' hlt => ?_)
  refine wpAny_bind (wpAny_newList ?_ (by rw [List.length_map, Array.length_toList]; exact lz))
  have hoL : (h'.push (seqObj "list" (es.toList.map (·.key)).toArray 0)).get? h'.objs.size = some (seqObj "list" (es.toList.map (·.key)).toArray 0) := Heap.get?_push_size _ rfl
  refine wpAny_bind (wpAny_holding (wpAny_call_entry PyProof.Rows.slot_list_sort ⟨_, hoL, rfl⟩ PyProof.Rows.entry_list_sort
    (SrtO.list_sort_ord SrtO.swo_int hoL (by rw [List.length_map, Array.length_toList]; exact lz) (fun h2 => SrtO.ints_sortable hI h2) fun out h1 h2 => ⟨_, rfl, ?_⟩) (PyProof.Rows.args_list_sort _)))
  obtain ⟨k1, k2, k3⟩ := SrtO.ints_out hI h1 h2
  obtain ⟨c, hc'⟩ := sortedHeap_at (vs := es.toList.map (·.key)) (out := out.toArray) hoL
  have hlen : ((out.map SrtO.iv).map V.int).length ≤ sizeLine := by
    rw [List.length_map, k2.length_eq, ← hI.length, List.length_map, Array.length_toList]
    exact lz
  have hle : s.heap.objs.size ≤ h'.objs.size := Nat.le_of_lt hlt
  have hn : H h'.objs.size = none := I.hok.fresh hle
  refine wpAny_pure ⟨_, rfl, .ref _, upd H h'.objs.size (.lst ((out.map SrtO.iv).map V.int)), I.laid (t' := s.toks) (fun b o e => ?_) hle ⟨hlen, out, c, vals_of_ints k1, hc'⟩, rfl, (q _ k2 k3).go _ hn⟩
  have e1 := hk' b o e
  have hb := Heap.lt_size e1
  rw [sortedHeap_old (Nat.ne_of_lt hb) (by rw [Heap.size_push]; exact Nat.lt_succ_of_lt hb)]
  exact Heap.get?_push_of_some _ e1
end
end My
set_option Elab.async false
set_option linter.all false
set_option maxRecDepth 100000
set_option maxHeartbeats 4000000
/-! dicts with int keys, as a list of keys and a function. -/
namespace My
open PySem L2
def kvsOf (ns : List Int) (g : Int → V) : List (Key × V) := ns.map fun n => (Sum.inl n, g n)
theorem kvs_keys (ns : List Int) (g : Int → V) : (kvsOf ns g).map (·.1) = ns.map Sum.inl := by
  unfold kvsOf
  rw [List.map_map]
  rfl
theorem kvs_len (ns : List Int) (g : Int → V) : (kvsOf ns g).length = ns.length := by
  unfold kvsOf
  rw [List.length_map]
theorem kvs_congr {ns : List Int} {g g' : Int → V} (h : ∀ n ∈ ns, g n = g' n) : kvsOf ns g = kvsOf ns g' := by
  unfold kvsOf
  exact List.map_congr_left fun n hn => by rw [h n hn]
theorem valV_kvs (g : Int → V) (k : Int) : ∀ ns : List Int, valV (kvsOf ns g) (Sum.inl k) = if k ∈ ns then some (g k) else none
  | [] => rfl
  | n :: ns => by
    show valV ((Sum.inl n, g n) :: kvsOf ns g) (Sum.inl k) = _
    by_cases e : n = k
    · subst e
      rw [valV_pos rfl, if_pos List.mem_cons_self]
    · rw [valV_neg (fun z => e (Sum.inl.inj z)), valV_kvs g k ns]
      by_cases m : k ∈ ns
      · rw [if_pos m, if_pos (List.mem_cons_of_mem _ m)]
      · rw [if_neg m, if_neg (fun z => by
          rcases List.mem_cons.mp z with z | z
          · exact e z.symm
          · exact m z)]
theorem any_kvs (g : Int → V) (k : Int) (ns : List Int) : ((kvsOf ns g).any fun kv => decide (kv.1 = Sum.inl k)) = decide (k ∈ ns) := by
  unfold kvsOf
  rw [List.any_map, Bool.eq_iff_iff, List.any_eq_true]
  constructor
  · rintro ⟨n, hn, e⟩
    have : n = k := by simpa using e
    subst this
    exact decide_eq_true hn
  · intro h
    exact ⟨k, of_decide_eq_true h, by simp⟩
theorem putK_kvs (g : Int → V) (k : Int) (v : V) (ns : List Int) : putK (kvsOf ns g) (Sum.inl k) v = kvsOf (if k ∈ ns then ns else ns ++ [k]) (fun n => if n = k then v else g n) := by
  unfold putK
  rw [any_kvs]
  by_cases m : k ∈ ns
  · rw [decide_eq_true m, if_pos rfl, if_pos m]
    unfold kvsOf
    rw [List.map_map]
    refine List.map_congr_left fun n hn => ?_
    show (if (Sum.inl n : Key) = Sum.inl k then ((Sum.inl n : Key), v) else (Sum.inl n, g n)) = (Sum.inl n, if n = k then v else g n)
    by_cases e : n = k
    · rw [if_pos (by rw [e]), if_pos e]
    · rw [if_neg (fun z => e (Sum.inl.inj z)), if_neg e]
  · rw [decide_eq_false m, if_neg Bool.false_ne_true, if_neg m]
    unfold kvsOf
    rw [List.map_append]
    congr 1
    · refine List.map_congr_left fun n hn => ?_
      have z : ¬ n = k := fun z => m (by rw [← z]; exact hn)
      show (Sum.inl n, g n) = (Sum.inl n, if n = k then v else g n)
      rw [if_neg z]
    · show [(Sum.inl k, v)] = [(Sum.inl k, if k = k then v else g k)]
      rw [if_pos rfl]
theorem dropK_kvs (g : Int → V) (k : Int) (ns : List Int) : dropK (kvsOf ns g) (Sum.inl k) = kvsOf (ns.filter fun n => decide (n ≠ k)) g := by
  unfold dropK kvsOf
  rw [List.filter_map]
  congr 1
  refine List.filter_congr fun n hn => ?_
  show decide ((Sum.inl n : Key) ≠ Sum.inl k) = decide (n ≠ k)
  rw [decide_eq_decide]
  exact ⟨fun h e => h (by rw [e]), fun h e => h (Sum.inl.inj e)⟩
theorem put_nodup {ns : List Int} (h : ns.Nodup) (k : Int) : (if k ∈ ns then ns else ns ++ [k]).Nodup := by
  split
  · exact h
  · rename_i m
    rw [List.nodup_append]
    exact ⟨h, by simp, fun a ha b hb => by
      have : b = k := by simpa using hb
      subst this
      exact fun e => m (e ▸ ha)⟩
theorem mem_put {ns : List Int} {k r : Int} : r ∈ (if k ∈ ns then ns else ns ++ [k]) ↔ r ∈ ns ∨ r = k := by
  split
  · rename_i m
    exact ⟨.inl, fun h => h.elim id fun e => e ▸ m⟩
  · simp
/-- two ascending lists without doubles of the same members are one -/
theorem asc_unique : ∀ {l m : List Int}, l.Pairwise (· < ·) → m.Pairwise (· < ·) → (∀ r, r ∈ l ↔ r ∈ m) → l = m
  | [], [], _, _, _ => rfl
  | [], y :: m, _, _, h => by
    have := (h y).mpr List.mem_cons_self
    cases this
  | x :: l, [], _, _, h => by
    have := (h x).mp List.mem_cons_self
    cases this
  | x :: l, y :: m, h1, h2, h => by
    obtain ⟨a1, a2⟩ := List.pairwise_cons.mp h1
    obtain ⟨b1, b2⟩ := List.pairwise_cons.mp h2
    have e : x = y := by
      rcases List.mem_cons.mp ((h x).mp List.mem_cons_self) with z | z
      · exact z
      · rcases List.mem_cons.mp ((h y).mpr List.mem_cons_self) with z' | z'
        · exact z'.symm
        · have := b1 x z
          have := a1 y z'
          omega
    subst e
    rw [asc_unique a2 b2 fun r => ?_]
    constructor
    · intro hr
      rcases List.mem_cons.mp ((h r).mp (List.mem_cons_of_mem _ hr)) with z | z
      · have := a1 r hr
        omega
      · exact z
    · intro hr
      rcases List.mem_cons.mp ((h r).mpr (List.mem_cons_of_mem _ hr)) with z | z
      · have := b1 r hr
        omega
      · exact z
theorem asc_of {ns ns' : List Int} (hp : ns'.Perm ns) (hs : ns'.Pairwise (· ≤ ·)) (hn : ns.Nodup) : ns'.Pairwise (· < ·) := by
  have hn' : ns'.Nodup := hp.nodup_iff.mpr hn
  exact (List.Pairwise.and hs hn').imp fun ⟨h1, h2⟩ => by omega
end My
namespace My
open PySem L2
/-- a dict comprehension over any walk -/
theorem dc_it {J : It} {n : Nat} {G : Hp → Prop} {Y : Nat → Hp → V → Hp → Prop} (w : Walk J n G Y) {g : TG} {tt : TT} {tk tv : TE} {vs : List Nat} {σ : L2.St} {H1 : Hp} {D : Addr} {Qd : Hp → Prop} (Pv : Nat → Hp → Prop) (h0 : Pv 0 (upd H1 D (.dK []))) (hG : ∀ i H, i ≤ n → Pv i H → G H)
    (hs : ∀ i x H H', i < n → Pv i H → Y i H x H' → g x (wipe σ vs) H' fun σ2 H2 => wipe σ2 vs = wipe σ vs ∧ tt σ2 H2 fun b H3 =>
      if b = true then tk σ2 H3 fun y H4 => tv σ2 H4 fun z H5 => ∃ kvs k, y = kV k ∧ H5 D = some (.dK kvs) ∧ kvs.length < sizeLine ∧ Pv (i + 1) (upd H5 D (.dK (putK kvs k z))) else Pv (i + 1) H3) (hd : ∀ H, Pv n H → Qd H) :
    ∃ W : Nat → Nat → Hp → Prop, (∃ m, W 0 m (upd H1 D (.dK []))) ∧ ∀ i m H, W i m H →
      (J.stop i H ∧ Qd H) ∨ (J.go i H ∧ ∃ Nx : Hp → Prop, (∀ H', Nx H' → ∃ m', m' < m ∧ W (i + 1) m' H') ∧ ∀ x H', J.yld i H x H' → g x (wipe σ vs) H' fun σ2 H2 => wipe σ2 vs = wipe σ vs ∧ tt σ2 H2 fun b H3 =>
        if b = true then tk σ2 H3 fun y H4 => tv σ2 H4 fun z H5 => ∃ kvs k, y = kV k ∧ H5 D = some (.dK kvs) ∧ kvs.length < sizeLine ∧ Nx (upd H5 D (.dK (putK kvs k z))) else Nx H3) := by
  refine ⟨fun i m H => m = n - i ∧ i ≤ n ∧ Pv i H, ⟨n, by simp, Nat.zero_le _, h0⟩, ?_⟩
  rintro i m H ⟨rfl, hi, p⟩
  have q := hG i H hi p
  by_cases hlt : i < n
  · exact .inr ⟨w.goes i H hlt q, Pv (i + 1), fun H' p' => ⟨n - (i + 1), by omega, rfl, hlt, p'⟩, fun x H' y => hs i x H H' hlt p (w.yields i H x H' hlt q y)⟩
  · have e : i = n := by omega
    subst e
    exact .inl ⟨w.stops H q, hd H p⟩
end My
namespace My
open PySem PySem.Spec PyProof.Rows L2
section
variable {X : Cx}
/-- x = {k: v for ..} -/
theorem ps_setDc {i : Nat} {y : Str} {py : Pos} {kx vx tg iter : Expr} {ifs : List Expr} {scope : Scope} {own : List (Str × Nat)} {pos spos : Pos} {wi : TI} {g : TG} {tt : TT} {tk tv : TE} (hc : X.calm = true) (hN : X.N.Nodup) (hy : X.N[i]? = some y) (hyl : X.env.scope.names.lookup y = some .local)
    (hsw : swapsWith (.DictComp kx vx [⟨tg, iter, ifs, 0⟩] scope pos) (some (.Name y py)) spos.line X.env = pure true) (hi : PI X tg iter wi) (ok : BlkOk X.N X.env.scope scope own)
    (hg : ∀ (s : Shared) (H : Hp) (C : Addr) (cl : List (Str × Addr)) (fp : List Addr), PG (X.blk s H scope (compEnvC scope cl C X.env) fp) tg g) (ht : ∀ (s : Shared) (H : Hp) (C : Addr) (cl : List (Str × Addr)) (fp : List Addr), PTs (X.blk s H scope (compEnvC scope cl C X.env) fp) ifs tt)
    (hk : ∀ (s : Shared) (H : Hp) (C : Addr) (cl : List (Str × Addr)) (fp : List Addr), PE (X.blk s H scope (compEnvC scope cl C X.env) fp) kx tk)
    (he : ∀ (s : Shared) (H : Hp) (C : Addr) (cl : List (Str × Addr)) (fp : List Addr), PE (X.blk s H scope (compEnvC scope cl C X.env) fp) vx tv) (hs : ∀ x, foldedSetIterable iter X.env x = pure x := by intro _; rfl) :
    PS X (.Assign [.Name y py] (.DictComp kx vx [⟨tg, iter, ifs, 0⟩] scope pos) spos) (tAsg (tDc wi g tt tk tv (own.map (·.2))) (gName i)) := by
  refine ⟨fun pins s σ H D I h => ?_⟩
  rw [exec_Assign_Name_used _ _ _ _ hsw]
  refine wpAny_bind (wpAny_standAt (wpAny_bind ?_))
  show wpAny _ X.A (do let _ ← comprehension (.DictComp kx vx [⟨tg, iter, ifs, 0⟩] scope pos) scope X.env (firstIterPos [⟨tg, iter, ifs, 0⟩] pos) newDict false (eval iter X.env) (some (assign (.Name y py) X.env))) _ _ s
  have h : tDc wi g tt tk tv (own.map (·.2)) σ H (fun x H1 => gName i x σ H1 D.nx) := h
  refine wpAny_bind (thn (dc_core (Qf := fun _ s' => SP X pins D .next s') hc hN I hi ok hg ht hk he hs h fun L C s' m H' I' q hn f => ?_) fun _ s' hq => wpAny_pure (wpAny_pure hq))
  show wpAny _ _ (assign (.Name y py) X.env (.ref L)) _ _ _
  refine wpAny_assign_Name (store_ok2 (v := V.ref L) I' hN hy (.inl hyl) rfl (fun s2 I2 ⟨a, sb, ha⟩ => ?_) (.inr hyl))
  obtain ⟨f0, f1, f2, f3, f4, f5⟩ := f
  have haC : C ≠ a := by
    rcases ha with z | z
    · rw [z]; exact f1
    · exact fun e => f4 y a z e.symm
  refine ⟨m, hn.sameBut sb haC, fun h3 sb3 => ?_⟩
  exact ⟨_, H', I2.turned (t' := s2.toks) (fun b o hb e => (sb3.2 b hb).trans e) f0 f1 f3 f4 f5, q⟩
theorem sw_trueD {kx vx : Expr} {gs : List Comprehension} {scope : Scope} {pos py : Pos} {y : Str} {l : Nat} {env : Env} (hk : env.scope.kind = .function) (hy : env.scope.names.lookup y = some .local) (hl : (py.line == pos.line) = true)
    (ha : (scope.names.any fun (n, k) => n == y && (k == .local || k == .cell)) = false) : swapsWith (.DictComp kx vx gs scope pos) (some (.Name y py)) l env = pure true := by
  have ky : env.kindOf y = some .local := hy
  have hb : env.blockKind = .function := by unfold Env.blockKind; rw [hk]; rfl
  unfold swapsWith
  simp only [hb, ky, ha, Expr.pos, hl]
  rfl
end
end My
namespace My
open PySem L2
theorem cut_mid (xs : List V) {n m : Nat} (h : m ≤ xs.length) : cutV xs (some (n : Int)) (some (m : Int)) = (xs.drop n).take (m - n) := by
  unfold cutV
  rw [HT.sIx_nat, HT.sIx_nat, Nat.min_eq_left h]
  by_cases h2 : n ≤ xs.length
  · rw [Nat.min_eq_left h2]
  · rw [Nat.min_eq_right (by omega), List.drop_eq_nil_of_le (Nat.le_refl _), List.drop_eq_nil_of_le (by omega), List.take_nil, List.take_nil]
theorem nodup_len : ∀ {l m : List Int}, l.Nodup → (∀ r ∈ l, r ∈ m) → l.length ≤ m.length
  | [], _, _, _ => Nat.zero_le _
  | x :: l, m, h, s => by
    obtain ⟨h1, h2⟩ := List.nodup_cons.mp h
    have hx := s x List.mem_cons_self
    have := nodup_len (m := m.erase x) h2 fun r hr => (List.mem_erase_of_ne (fun e : r = x => h1 (by rw [← e]; exact hr))).mpr (s r (List.mem_cons_of_mem _ hr))
    rw [List.length_erase_of_mem hx] at this
    have : 0 < m.length := List.length_pos_of_mem hx
    rw [List.length_cons]
    omega
/-- the keys of a dict of marks -/
structure FdOk (f : Int → Bool) (dom ks : List Int) : Prop where
  nd : ks.Nodup
  is : ∀ r, r ∈ ks ↔ f r = true
  dm : ∀ r ∈ ks, r ∈ dom
theorem FdOk.len {f : Int → Bool} {dom ks : List Int} (h : FdOk f dom ks) : ks.length ≤ dom.length := nodup_len h.nd h.dm
theorem FdOk.congr {f g : Int → Bool} {dom ks : List Int} (h : FdOk f dom ks) (e : ∀ r, f r = g r) : FdOk g dom ks := ⟨h.nd, fun r => by rw [h.is, e], h.dm⟩
theorem FdOk.put {f : Int → Bool} {dom ks : List Int} (h : FdOk f dom ks) {k : Int} (hk : k ∈ dom) : FdOk (fun r => if r = k then true else f r) dom (if k ∈ ks then ks else ks ++ [k]) :=
  ⟨put_nodup h.nd k, fun r => by
    rw [mem_put, h.is]
    by_cases e : r = k
    · simp [e]
    · simp [e], fun r hr => by
    rcases mem_put.mp hr with z | z
    · exact h.dm r z
    · exact z ▸ hk⟩
theorem FdOk.drop {f : Int → Bool} {dom ks : List Int} (h : FdOk f dom ks) (k : Int) : FdOk (fun r => if r = k then false else f r) dom (ks.filter fun n => decide (n ≠ k)) :=
  ⟨h.nd.sublist List.filter_sublist, fun r => by
    rw [List.mem_filter, h.is]
    by_cases e : r = k
    · simp [e]
    · simp [e], fun r hr => h.dm r (List.mem_filter.mp hr).1⟩
abbrev tt : Int → V := fun _ => .bl true
theorem putK_tt (k : Int) (ks : List Int) : putK (kvsOf ks tt) (Sum.inl k) (.bl true) = kvsOf (if k ∈ ks then ks else ks ++ [k]) tt := by
  rw [putK_kvs]
  exact kvs_congr fun n _ => by
    show (if n = k then V.bl true else .bl true) = .bl true
    split <;> rfl
theorem kvs_snoc (ks : List Int) (g : Int → V) (k : Int) (h : k ∉ ks) : putK (kvsOf ks g) (Sum.inl k) (g k) = kvsOf (ks ++ [k]) g := by
  rw [putK_kvs, if_neg h]
  exact kvs_congr fun n _ => by
    show (if n = k then g k else g n) = g n
    split
    · rename_i e
      rw [e]
    · rfl
theorem nodup_inj {ns : List Int} (h : ns.Nodup) {i j : Nat} (hi : i < ns.length) (hj : j < ns.length) (e : ns[i] = ns[j]) : i = j := by
  have hp := List.pairwise_iff_getElem.mp h
  rcases Nat.lt_trichotomy i j with z | z | z
  · exact absurd e (hp i j hi hj z)
  · exact z
  · exact absurd e.symm (hp j i hj hi z)
theorem nodup_take {ns : List Int} (h : ns.Nodup) (i : Nat) {x : Int} (hx : ns[i]? = some x) : x ∉ ns.take i := fun m => by
  obtain ⟨j, hj, e⟩ := List.getElem_of_mem m
  rw [List.length_take] at hj
  rw [List.getElem_take] at e
  obtain ⟨hi, e2⟩ := List.getElem?_eq_some_iff.mp hx
  have := nodup_inj h (i := j) (j := i) (by omega) hi (by rw [e, e2])
  omega
theorem idx_of {ns : List Int} (h : ns.Nodup) {i : Nat} {x : Int} (hx : ns[i]? = some x) : ns.idxOf x = i := by
  obtain ⟨hi, e2⟩ := List.getElem?_eq_some_iff.mp hx
  have hm : x ∈ ns := List.mem_of_getElem? hx
  have hlt := List.idxOf_lt_length_of_mem hm
  exact nodup_inj h (i := ns.idxOf x) (j := i) hlt hi (by rw [List.getElem_idxOf, e2])
theorem take_snoc {α : Type} {ns : List α} {i : Nat} {x : α} (hx : ns[i]? = some x) : ns.take (i + 1) = ns.take i ++ [x] := by
  rw [List.take_add_one, hx]
  rfl
theorem foldl_take {α β : Type} {f : β → α → β} {b : β} {cs : List α} {i : Nat} {c : α} (h : cs[i]? = some c) : (cs.take (i + 1)).foldl f b = f ((cs.take i).foldl f b) c := by
  rw [take_snoc h, List.foldl_append]
  rfl
theorem peBMK {X : Cx} {K : PySem.W.Frag} (h : X.K = K) {e : Expr} {T : String} {r : V → List V → Hp → VK → Prop} {to : TE} {t : TA} (p : PE X e (tBM X.K T r to t)) : PE X e (tBM K T r to t) := h ▸ p
theorem peBM0K {X : Cx} {K : PySem.W.Frag} (h : X.K = K) {e : Expr} {T : String} {r : V → List V → Hp → VK → Prop} {to : TE} (p : PE X e (tBM0 X.K T r to)) : PE X e (tBM0 K T r to) := h ▸ p
section
variable {X : Cx} {e : Expr} {te : L2.St → Hp → (Int → Int → Hp → Prop) → Prop}
def tCutR (te : L2.St → Hp → (Int → Int → Hp → Prop) → Prop) : L2.St → Hp → (Int → Int → Hp → Prop) → Prop := fun σ H Q => ∃ M : Int → Int → Hp → Prop, te σ H M ∧ ∀ a b H', M a b H' → Q a b H'
theorem prg_cut (h : PRg X e te) : PRg X e (tCutR te) := fun pins s σ H Q I ⟨M, hm, hq⟩ => thn (h pins s σ H M I hm) fun x s1 ⟨r, a, b, t, u, v, H', e1, e2, I1, q⟩ => ⟨r, a, b, t, u, v, H', e1, e2, I1, hq a b H' q⟩
def tLstRgG (te : L2.St → Hp → (Int → Int → Hp → Prop) → Prop) : TE := fun σ H Q => te σ H fun a b H1 => RgOk a b ∧ New (.lst (rgV a b)) H1 Q
/-- list(range(..)) -/
theorem pe_listRgG {p pos : Pos} (hc : X.calm = true) (hg : Gl X "list") (hm : X.mg "list" = none) (he : PRg X e te) (na : PySem.starEach [e] X.env = (false, PySem.eval e X.env) :: PySem.starEach [] X.env := by rfl) : PE X (.Call (.Name "list" p) [e] [] pos) (tLstRgG te) :=
  pe_weak (pe_listRg hc hg hm (prg_cut he) na) fun σ H Q q => ⟨_, q, fun _ _ _ z => ⟨z.1, fun p hp => z.2.go p hp⟩⟩
/-- the ints 0 .. n - 1 -/
def upN (n : Nat) : List Int := (List.range n).map fun i => ((i : Nat) : Int)
theorem rgV_upN (n : Nat) : rgV 0 (n : Int) = (upN n).map V.int := by
  unfold rgV upN
  rw [List.map_map]
  have e : ((n : Int) - 0).toNat = n := by omega
  rw [e]
  exact List.map_congr_left fun i _ => by
    show V.int (0 + (i : Int)) = V.int (i : Int)
    rw [Int.zero_add]
theorem upN_len (n : Nat) : (upN n).length = n := by
  unfold upN
  rw [List.length_map, List.length_range]
theorem upN_mem {n : Nat} {r : Int} (h : r ∈ upN n) : 0 ≤ r ∧ r < n := by
  unfold upN at h
  obtain ⟨i, hi, rfl⟩ := List.mem_map.mp h
  have := List.mem_range.mp hi
  omega
theorem upN_nodup (n : Nat) : (upN n).Nodup := by
  unfold upN
  show List.Pairwise _ _
  rw [List.pairwise_map]
  exact List.nodup_range.imp fun h => by omega
end
end My
set_option Elab.async false
set_option linter.all false
set_option maxRecDepth 100000
set_option maxHeartbeats 4000000
/-! repr: how long what is shown can be; repr of any data without dicts. -/
namespace My
open PySem PySem.Spec PyProof.Rows L2
/-- data that can be shown, no deeper than n, in at most M signs -/
structure Shw (d : PyData) (n M : Nat) : Prop where
  sh : d.showable = true
  nd : d.hasDict = false
  dp : d.depth ≤ n
  ln : d.shown.length ≤ M
theorem Shw.mono {d : PyData} {n m M L : Nat} (h : Shw d n M) (h1 : n ≤ m) (h2 : M ≤ L) : Shw d m L := ⟨h.sh, h.nd, Nat.le_trans h.dp h1, Nat.le_trans h.ln h2⟩
theorem log_of {i : Int} (h : i.natAbs < 2 ^ 1900) : i.natAbs.log2 < 1920 := by
  have := PySem.Flt.log2_lt_of (k := 1900) (by decide) h
  omega
theorem Shw.int {i : Int} (h : i.natAbs.log2 < 1920) : Shw (.int i) 0 1921 := ⟨decide_eq_true h, rfl, Nat.le_refl _, by
  show (Str.ofString (toString i)).length ≤ 1921
  rw [PySem.ofString_length]
  exact int_text_length_le (k := 1920) (by decide) h⟩
theorem Shw.none : Shw .none 0 4 := ⟨rfl, rfl, Nat.le_refl _, by decide⟩
theorem Shw.bool (b : Bool) : Shw (.bool b) 0 5 := ⟨rfl, rfl, Nat.le_refl _, by cases b <;> decide⟩
theorem textFrom_le : ∀ (ts : List Str) (k : Nat) (acc : Str), (textFrom k acc ts).length ≤ acc.length + piled ts
  | [], k, acc => by
    show acc.length ≤ acc.length + piled []
    omega
  | t :: r, k, acc => by
    have ih := textFrom_le r (k + 1) (acc ++ (if k > 0 then ", " else "" : String) ++ t)
    have l2 : (if k > 0 then 2 else 0) ≤ 2 := by split <;> omega
    have e : (acc ++ (if k > 0 then ", " else "" : String) ++ t).length = acc.length + (if k > 0 then 2 else 0) + t.length := by
      rw [Str.length_append, Str.length_append]
      split <;> rfl
    rw [e] at ih
    show (textFrom (k + 1) (acc ++ (if k > 0 then ", " else "" : String) ++ t) r).length ≤ _
    rw [piled_cons]
    omega
theorem piled_le {M : Nat} : ∀ ts : List Str, (∀ t ∈ ts, t.length ≤ M) → piled ts ≤ ts.length * (M + 2)
  | [], _ => Nat.zero_le _
  | t :: r, h => by
    have ih := piled_le r fun x hx => h x (List.mem_cons_of_mem _ hx)
    have := h t List.mem_cons_self
    rw [piled_cons, List.length_cons, Nat.succ_mul]
    omega
theorem all_of {n M : Nat} : ∀ {xs : List PyData}, (∀ x ∈ xs, Shw x n M) → PyData.showableAll xs = true ∧ PyData.hasDictAll xs = false ∧ PyData.depthAll xs ≤ n ∧ (PyData.shownAll xs).length = xs.length ∧ ∀ t ∈ PyData.shownAll xs, t.length ≤ M
  | [], _ => ⟨rfl, rfl, Nat.zero_le _, rfl, fun t ht => by cases ht⟩
  | x :: xs, h => by
    obtain ⟨h1, h2, h3, h4, h5⟩ := all_of (xs := xs) fun y hy => h y (List.mem_cons_of_mem _ hy)
    have hx := h x List.mem_cons_self
    refine ⟨?_, ?_, ?_, ?_, fun t ht => ?_⟩
    · show (PyData.showable x && PyData.showableAll xs) = true
      rw [hx.sh, h1]
      rfl
    · show (PyData.hasDict x || PyData.hasDictAll xs) = false
      rw [hx.nd, h2]
      rfl
    · exact Nat.max_le.mpr ⟨hx.dp, h3⟩
    · show (PyData.shownAll xs).length + 1 = xs.length + 1
      rw [h4]
    · rcases List.mem_cons.mp (show t ∈ PyData.shown x :: PyData.shownAll xs from ht) with z | z
      · rw [z]
        exact hx.ln
      · exact h5 t z
theorem Shw.list {n M : Nat} {xs : List PyData} (h : ∀ x ∈ xs, Shw x n M) : Shw (.list xs) (n + 1) (2 + xs.length * (M + 2)) := by
  obtain ⟨h1, h2, h3, h4, h5⟩ := all_of h
  refine ⟨h1, h2, by show PyData.depthAll xs + 1 ≤ n + 1; omega, ?_⟩
  show (textFrom 0 "[" (PyData.shownAll xs) ++ ("]" : Str)).length ≤ _
  have a := textFrom_le (PyData.shownAll xs) 0 "["
  have b := piled_le _ h5
  have e1 : ((("[" : String) : Str)).length = 1 := rfl
  have e2 : ((("]" : String) : Str)).length = 1 := rfl
  rw [Str.length_append, e2]
  rw [e1] at a
  rw [h4] at b
  omega
theorem Shw.tuple {n M : Nat} {xs : List PyData} (h : ∀ x ∈ xs, Shw x n M) : Shw (.tuple xs) (n + 1) (3 + xs.length * (M + 2)) := by
  obtain ⟨h1, h2, h3, h4, h5⟩ := all_of h
  refine ⟨h1, h2, by show PyData.depthAll xs + 1 ≤ n + 1; omega, ?_⟩
  show (tupleText (PyData.shownAll xs)).length ≤ _
  have b := piled_le _ h5
  unfold tupleText
  rw [Str.length_append, Str.length_append]
  have e1 : ((("(" : String) : Str)).length = 1 := rfl
  have e3 : (((if (PyData.shownAll xs).length == 1 then ",)" else ")" : String) : Str)).length ≤ 2 := by split <;> decide
  rw [e1]
  rw [h4] at b
  by_cases z : PyData.shownAll xs = []
  · rw [z] at e3 ⊢
    have : (Str.join ", " ([] : List Str)).length = 0 := rfl
    omega
  · have := join_length_add _ z
    omega
/-- ints within some bits -/
def Bd (b : Nat) (ns : List Int) : Prop := ∀ n ∈ ns, n.natAbs < 2 ^ b
theorem Shw.ints {b : Nat} {ns : List Int} (hb : b ≤ 1900) (h : Bd b ns) : Shw (eL PyData.int ns) 1 (2 + ns.length * 1923) := by
  have := Shw.list (n := 0) (M := 1921) (xs := ns.map PyData.int) fun x hx => by
    obtain ⟨n, hn, rfl⟩ := List.mem_map.mp hx
    exact Shw.int (log_of (Nat.lt_of_lt_of_le (h n hn) (Nat.pow_le_pow_right (by decide) hb)))
  rw [List.length_map] at this
  exact this
section
variable {X : Cx}
/-- repr of any data without dicts -/
def rReprA (K : PySem.W.Frag) : List V → Hp → VK → Prop := fun vs H Q => ∃ (v : V) (d : PyData), vs = [v] ∧ Dp K H v d ∧ Shw d 60 sizeLine ∧ Q (.str d.shown) H
theorem cr_reprA (gd : X.A.guards = some []) (hu : X.A.units + 64 < cLine) : CallR X (.builtin "repr") (rReprA X.K) := by
  intro pins s σ H vs us Q I r h
  obtain ⟨v, d, rfl, hd, sw, q⟩ := h
  obtain ⟨u, rfl, ru⟩ := vals1 r
  cases hd with
  | non =>
    cases ru
    exact PySem.P.repr_of_none ⟨.str _, H, I.tok _, ⟨_, rfl⟩, q⟩
  | bl b =>
    cases ru
    exact PySem.P.repr_of_bool ⟨.str _, H, I.tok _, ⟨_, rfl⟩, q⟩
  | int i =>
    obtain ⟨t, rfl⟩ := ru
    exact PySem.P.repr_of_int (of_decide_eq_true sw.sh) ⟨.str _, H, I.tok _, ⟨_, rfl⟩, q⟩
  | str x =>
    obtain ⟨t, rfl⟩ := ru
    exact PySem.P.repr_of_str ⟨.str _, H, I.tok _, ⟨_, rfl⟩, q⟩ sw.ln
  | lst h1 h2 => exact cr_repr gd hu pins s σ H _ _ Q I r ⟨_, _, rfl, .lst h1 h2, sw.sh, sw.nd, sw.dp, sw.ln, ⟨_, rfl⟩, q⟩
  | tup h1 h2 => exact cr_repr gd hu pins s σ H _ _ Q I r ⟨_, _, rfl, .tup h1 h2, sw.sh, sw.nd, sw.dp, sw.ln, ⟨_, rfl⟩, q⟩
end
end My
set_option Elab.async false
set_option linter.all false
set_option maxRecDepth 100000
set_option maxHeartbeats 4000000
/-! Own classes: len(o) by an own __len__, o == p and o != p by an own __eq__. -/
namespace My
open PySem PySem.Spec PyProof.Rows L2
section
variable {X : Cx} {CX : CXT} {n : Nat} {f C : Addr} {fd : FuncData} {ps : List Str} {sp : Sp} {E : XK}
/-- a def called with an around one deeper; what is raised does not leave -/
theorem run_in1 {pins : List (Addr × Obj)} {σ : L2.St} {H : Hp} {s : Shared} {Q : VK} {E' : Value → Shared → Prop} {us : List Value} {vs : List V} (F : FnOk X.prog X.w X.K X.mg X.base CX n f fd ps sp) (hr : Room (n + 1) X.A) (hb : Binds X.K fd ps []) (hx : Passes CX X.nox E)
    (I : Inv X pins σ H s) (r : Vals vs us) (h : sp vs H Q E) : wpAny (model X.prog X.w) X.A.in1 (call (.ref f) us) (EP X pins σ Q) E' s := by
  have hl : us.length = ps.length := by rw [← r.length]; exact F.len _ _ _ _ h
  have hb' := hb s us I.kIn (by rw [List.append_nil]; exact hl)
  rw [List.append_nil] at hb'
  refine wpAny_call (codeAny_mono (F.run X.A.in1 X.stack s H ⟨us, []⟩ us vs Q E hr.in1 I.env0.in1 hb' r h) fun r s' hq => ?_)
  cases r with
  | error er => exact False.elim (hx pins σ H s er s' (I.wish _) hq)
  | ok fl =>
    cases fl with
    | ret u => exact I.after hq
    | next => exact False.elim hq
    | brk => exact False.elim hq
    | cont => exact False.elim hq
def rLenO (C : Addr) (sp : Sp) (E : XK) : List V → Hp → VK → Prop := fun vs H Q => ∃ a dx fs, vs = [V.ref a] ∧ H a = some (.ins C dx fs) ∧ sp [.ref a] H (fun v H' => ∃ m : Int, v = .int m ∧ 0 ≤ m ∧ m < 2 ^ 63 ∧ Q (.int m) H') E
theorem cr_lenO (F : FnOk X.prog X.w X.K X.mg X.base CX n f fd ps sp) (hr : Room (n + 1) X.A) (hs : PySem.W.findIn X.K (.ref C) "__len__" = some (some (.ref f))) (hf : PySem.W.isFn X.K (.ref f) = true) (hb : Binds X.K fd ps []) (hx : Passes CX X.nox E) : CallR X (.builtin "len") (rLenO C sp E) := by
  intro pins s σ H vs us Q I r h
  obtain ⟨a, dx, fs, rfl, ha, h⟩ := h
  rw [Vals.ref1 r]
  obtain ⟨mA, J, _⟩ := ins_get I.hok ha
  obtain ⟨od, J, _⟩ := J.look
  obtain ⟨m, hF⟩ := I.fr
  refine PySem.W.len_K hF I.ok.mod.kin J hs hf (wpAny_mono (run_in1 (vs := [V.ref a]) F hr hb hx I (.cons rfl .nil) h) (fun u s' z => ?_) fun _ _ e => e)
  obtain ⟨v, H', I', rv, m, rfl, m0, m1, q⟩ := z
  obtain ⟨t, rfl⟩ := rv
  exact ⟨⟨m0, m1⟩, .int m, H', I'.tok _, ⟨_, rfl⟩, q⟩
def rEqO (C : Addr) (sp : Sp) (E : XK) : R2 := fun x y H Q => ∃ a b dx fs dy gs, x = .ref a ∧ y = .ref b ∧ H a = some (.ins C dx fs) ∧ H b = some (.ins C dy gs) ∧ sp [.ref a, .ref b] H (fun v H' => ∃ r : Bool, v = .bl r ∧ Q (.bl r) H') E
def rNeO (C : Addr) (sp : Sp) (E : XK) : R2 := fun x y H Q => ∃ a b dx fs dy gs, x = .ref a ∧ y = .ref b ∧ H a = some (.ins C dx fs) ∧ H b = some (.ins C dy gs) ∧ sp [.ref a, .ref b] H (fun v H' => ∃ r : Bool, v = .bl r ∧ Q (.bl (!r)) H') E
theorem run_here {pins : List (Addr × Obj)} {σ : L2.St} {H : Hp} {s : Shared} {Q : VK} {us : List Value} {vs : List V} (F : FnOk X.prog X.w X.K X.mg X.base CX n f fd ps sp) (hr : Room n X.A) (hb : Binds X.K fd ps []) (hx : Passes CX X E)
    (I : Inv X pins σ H s) (r : Vals vs us) (h : sp vs H Q E) : wpAny (model X.prog X.w) X.A (call (.ref f) us) (EP X pins σ Q) X.xe s := by
  have hl : us.length = ps.length := by rw [← r.length]; exact F.len _ _ _ _ h
  have hb' := hb s us I.kIn (by rw [List.append_nil]; exact hl)
  rw [List.append_nil] at hb'
  refine wpAny_call (codeAny_mono (F.run X.A X.stack s H ⟨us, []⟩ us vs Q E hr I.env0 hb' r h) fun r s' hq => ?_)
  cases r with
  | error er => exact hx pins σ H s er s' I hq
  | ok fl =>
    cases fl with
    | ret u => exact I.after hq
    | next => exact False.elim hq
    | brk => exact False.elim hq
    | cont => exact False.elim hq
theorem op_eqO (F : FnOk X.prog X.w X.K X.mg X.base CX n f fd ps sp) (hr : Room n X.A) (hs : PySem.W.findIn X.K (.ref C) "__eq__" = some (some (.ref f))) (hf : PySem.W.isFn X.K (.ref f) = true) (hb : Binds X.K fd ps []) (hx : Passes CX X E) : OpR X (compareOp .Eq) (rEqO C sp E) := by
  intro pins s σ H x y v u Q I rx ry h
  obtain ⟨a, b, dx, fs, dy, gs, rfl, rfl, ha, hb', h⟩ := h
  cases rx
  cases ry
  obtain ⟨mA, J, _⟩ := ins_get I.hok ha
  obtain ⟨mB, J', _⟩ := ins_get I.hok hb'
  obtain ⟨od, J, _⟩ := J.look
  obtain ⟨od', J', _⟩ := J'.look
  obtain ⟨m, hF⟩ := I.fr
  show wpAny (model X.prog X.w) X.A (richCompare .Eq (.ref a) (.ref b)) (EP X pins σ Q) X.xe s
  refine PySem.W.cmp_K (op := .Eq) (tb := .ref C) hr.units0 hF I.ok.mod.kin J J'.type (by simp [PySem.W.notFirst]) hs hf ?_
  refine wpAny_mono (run_here (vs := [V.ref a, V.ref b]) F hr hb hx I (.cons rfl (.cons rfl .nil)) h) (fun u s' z => ?_) fun _ _ e => e
  obtain ⟨v, H', I', rv, r, rfl, q⟩ := z
  cases rv
  exact ⟨.bl r, H', I', rfl, q⟩
theorem ifBound_objNe {M : Model} {A : Around} {E : Value → Shared → Prop} {s : Shared} {K : PySem.W.Frag} {x C : Addr} {ox : Obj} {od : Option Obj} {args : List Value} {Q : Option Value → Shared → Prop} (KX : K.In s.heap) (I : PySem.W.InstAt s.heap x ox C od) (hs : PySem.W.findIn K (.ref C) "__ne__" = some (some (.builtin "object.__ne__")))
    (h : wpAny M A (call (.builtin "object.__ne__") (.ref x :: args)) (fun v => Q (some v)) E s) : wpAny M A (callSpecialIfBound? (.ref x) "__ne__" args) Q E s := by
  simp only [callSpecialIfBound?, bindSpecialIfBound?]
  refine wpAny_holding (wpAny_bind (wpAny_bind (wpAny_bind (I.type.here ((PySem.W.looks_findIn KX hs).here ?_)))))
  refine wpAny_bind (wpAny_askSetting (wpAny_ite ?_))
  have fin : wpAny M A (call (.builtin "object.__ne__") ([.ref x] ++ args) >>= fun v => pure (some v)) Q E s := wpAny_bind (wpAny_mono h (fun v s' h' => wpAny_pure h') fun _ _ h' => h')
  split
  · exact wpAny_bind (wpAny_of_eq (F.cmp_object.ne.bind _) (wpAny_pure (by exact fin)))
  · exact wpAny_tryCatch (wpAny_bind (wpAny_of_eq (F.cmp_object.ne.bind _) (wpAny_pure (by exact fin))))
theorem op_neO (F : FnOk X.prog X.w X.K X.mg X.base CX n f fd ps sp) (hr : Room (n + 1) X.A) (hs : PySem.W.findIn X.K (.ref C) "__eq__" = some (some (.ref f))) (hn : PySem.W.findIn X.K (.ref C) "__ne__" = some (some (.builtin "object.__ne__"))) (hm : PySem.W.mroIn X.K C (.type "object") = some true) (hf : PySem.W.isFn X.K (.ref f) = true) (hb : Binds X.K fd ps []) (hx : Passes CX X.nox E) : OpR X (compareOp .NotEq) (rNeO C sp E) := by
  intro pins s σ H x y v u Q I rx ry h
  obtain ⟨a, b, dx, fs, dy, gs, rfl, rfl, ha, hb', h⟩ := h
  cases rx
  cases ry
  obtain ⟨mA, J, _⟩ := ins_get I.hok ha
  obtain ⟨mB, J', _⟩ := ins_get I.hok hb'
  obtain ⟨od, J, _⟩ := J.look
  obtain ⟨od', J', _⟩ := J'.look
  have KX := I.kIn
  show wpAny (model X.prog X.w) X.A (richCompare .NotEq (.ref a) (.ref b)) (EP X pins σ Q) X.xe s
  have one : wpAny (model X.prog X.w) X.A (tryCompare (.ref a) "__ne__" (.ref b)) (fun r s' => ∃ v, r = some v ∧ EP X pins σ Q v s') X.xe s := by
    unfold tryCompare
    refine wpAny_bind (ifBound_objNe KX J hn ?_)
    refine wpAny_call (codeAny_call_builtin PySem.F.cmp_object.ne.plain PySem.F.cmpEntry_ne (PySem.W.check_slot PySem.F.cmpKind_ne PySem.F.cmpSplit_ne (J.type.andThen (PySem.W.looks_mroIn KX hm)) (PySem.F.cmpArgs_ne _ _) ?_))
    unfold Builtin.«object.__ne__»
    refine wpAny_bind (wpAny_pure ?_)
    refine wpAny_bind (wpAny_cRoomFor (hr.in1).units0 ?_)
    refine wpAny_bind (m := callSpecialIfBound? (.ref a) (Str.ofString "__eq__") _) (PySem.W.ifBound_K KX J hs hf (wpAny_mono (run_in1 (vs := [V.ref a, V.ref b]) F hr hb hx I (.cons rfl (.cons rfl .nil)) h) (fun u s' z => ?_) fun _ _ e => e))
    obtain ⟨v, H', I', rv, r, rfl, q⟩ := z
    cases rv
    show wpAny _ X.A.in1 (truthy (.bool r) >>= _) _ _ s'
    refine wpAny_bind (wpAny_truthy_bool ?_)
    refine wpAny_pure ?_
    show wpAny _ X.A _ _ _ s'
    exact wpAny_pure ⟨_, rfl, .bl (!r), H', I', rfl, q⟩
  unfold richCompare
  simp only [oneThing_ref]
  refine wpAny_holding (wpAny_bind (wpAny_cRoomFor hr.units0 ?_))
  refine wpAny_bind (J.type.here (wpAny_bind (J'.type.here ?_)))
  split
  · rename_i q
    simp at q
  · refine wpAny_bind (wpAny_pure ?_)
    simp only [Bool.false_eq_true, if_false]
    refine wpAny_bind (wpAny_mono one (fun r s' z => ?_) fun _ _ e => e)
    obtain ⟨v, rfl, hq⟩ := z
    exact wpAny_pure hq
theorem pe_fldK {K : PySem.W.Frag} (h : X.K = K) {e : Expr} {g : Str} {ta : TE} (p : PE X e (tFld X.K ta g)) : PE X e (tFld K ta g) := h ▸ p
/-- tuple(x): of a list a new one, of a tuple itself -/
def rTupleA (K : PySem.W.Frag) : List V → Hp → VK → Prop := fun xs H Q => ∃ p ys, xs = [V.ref p] ∧ ((SqL K H p ys ∧ New (.tup ys) H Q) ∨ (SqT K H p ys ∧ Q (.ref p) H))
theorem call_tupleA : CallR X (.type "tuple") (rTupleA X.K) := fun pins s σ H xs us Q I r ⟨p, ys, h1, h2⟩ => call_tuple_of pins s σ H xs us Q I r ⟨p, ys, h1, h2.imp (fun z => ⟨z.1, fun l hl => z.2.go l hl⟩) id⟩
end
end My
set_option Elab.async false
set_option linter.all false
set_option maxRecDepth 100000
set_option maxHeartbeats 4000000
/-! sorted(xs) of any alike data (tuples, lists, texts, ints, nested), as a rule of the hand layer. -/
namespace My
open PySem PySem.Spec PyProof.Rows L2
open PySem.W (EachIs AllAlike Sortable dataKind sortVals KeyedOut dataLe)
/-- the values sorted by their data -/
def zsort (xs : List V) (ds : List PyData) : List V := ((xs.zip ds).mergeSort (dataLe false (·.2))).map (·.1)
def dsort (ds : List PyData) : List PyData := ds.mergeSort (dataLe false fun d => d)
theorem zsort_len {xs : List V} {ds : List PyData} (h : xs.length = ds.length) : (zsort xs ds).length = xs.length := by
  unfold zsort
  rw [List.length_map, List.length_mergeSort, List.length_zip, h, Nat.min_self]
theorem each_reads {h : Heap} : ∀ {vs : List Value} {ds : List PyData} {as : List Addr}, ReadsAll h vs ds as → EachIs (fun v d => ∃ as, Reads h v d as) vs ds
  | _, _, _, .nil => .nil
  | _, _, _, .cons h t => .cons ⟨_, h⟩ (each_reads t)
theorem each_vals : ∀ {us : List Value} {ps : List (V × PyData)}, EachIs (fun (u : Value) (p : V × PyData) => RelV p.1 u) us ps → Vals (ps.map (·.1)) us
  | _, _, .nil => .nil
  | _, _, .cons h t => .cons h (each_vals t)
theorem each_zip : ∀ {xs : List V} {us : List Value} {ds : List PyData}, Vals xs us → xs.length = ds.length → EachIs (fun (u : Value) (p : V × PyData) => RelV p.1 u) us (xs.zip ds)
  | _, _, [], .nil, _ => .nil
  | _, _, _ :: _, .nil, h => by cases h
  | _, _, [], .cons _ _, h => by cases h
  | _, _, _ :: _, .cons h t, e => .cons h (each_zip t (by simpa using e))
theorem dpLen {K : PySem.W.Frag} {H : Hp} : ∀ {xs : List V} {ds : List PyData}, DpAll K H xs ds → xs.length = ds.length
  | _, _, .nil => rfl
  | _, _, .cons _ t => by simp [dpLen t]
section
variable {X : Cx}
def rSortedA (K : PySem.W.Frag) : List V → Hp → VK → Prop := fun vs H Q => ∃ (a : Addr) (xs : List V) (ds : List PyData), vs = [V.ref a] ∧ SqL K H a xs ∧ DpAll K H xs ds ∧ AllAlike ds ∧ Sortable ds ∧ (∀ d ∈ ds, d.depth ≤ 60) ∧ New (.lst (zsort xs ds)) H Q
theorem cr_sortedA (hu : X.A.units + 64 < cLine) : CallR X (.builtin "sorted") (rSortedA X.K) := by
  intro pins s σ H vs us Q I r h
  obtain ⟨a, xs, ds, rfl, hs, hd, hal, hso, hdep, q⟩ := h
  obtain ⟨its, rv, hl, hz⟩ := I.list hs
  rw [Vals.ref1 r]
  obtain ⟨as, hr⟩ := Dp.readsAll I ds xs its hd rv
  have hlen := dpLen hd
  have e0 := each_reads hr
  have e1 : EachIs (fun v d => ∃ as, Reads (PySem.W.sortingHeap (PySem.W.copyHeap s.heap its) (s.heap.objs.size + 1) its) v d as) its ds := e0.mono fun v d ⟨as, z⟩ => ⟨as, Reads.keeps (fun b o e => PySem.W.sorting_copy_old e) z⟩
  refine PySem.W.sorted_vals (κ := dataKind (PySem.W.sortingHeap (PySem.W.copyHeap s.heap its) (s.heap.objs.size + 1) its) ds) hl.isList (PySem.W.SortsAt.data (s := { s with heap := PySem.W.sortingHeap (PySem.W.copyHeap s.heap its) (s.heap.objs.size + 1) its }) e1 hal hso fun d m => ?_) (by rw [← rv.length]; exact hz) ?_
  · show X.A.units + 1 + 1 + d.depth < cLine
    have := hdep d m
    omega
  · have ez : (xs.zip ds).map (·.2) = ds := by
      rw [← List.zip_unzip (xs.zip ds)]
      simp [List.map_snd_zip, hlen]
    have ko : KeyedOut false ((xs.zip ds).map (·.2)) its (sortVals (dataKind (PySem.W.sortingHeap (PySem.W.copyHeap s.heap its) (s.heap.objs.size + 1) its) ds) false its its) := by
      rw [ez]
      exact ⟨_, its, hal, rfl, e1⟩
    have ev := each_vals (PySem.W.keyedOut_each (·.2) ko (each_zip rv hlen))
    obtain ⟨n, hn⟩ := sortedAll_at s.heap its (sortVals (dataKind (PySem.W.sortingHeap (PySem.W.copyHeap s.heap its) (s.heap.objs.size + 1) its) ds) false its its).toArray
    refine ⟨.ref _, upd H _ (.lst (zsort xs ds)), I.laid (t' := s.toks) (fun b o e => sortedAll_old e) (Nat.le_succ _) ⟨?_, _, n, ev, hn⟩, rfl, q.go _ (I.hok.fresh (Nat.le_succ _))⟩
    rw [zsort_len hlen]
    exact hz
/-- xs[::-1] -/
def tRevG (K : PySem.W.Frag) (te : TE) : TE := fun σ H Q => te σ H fun x H1 => ∃ a xs, x = .ref a ∧ SqL K H1 a xs ∧ New (.lst xs.reverse) H1 Q
theorem pe_revG {e : Expr} {te : TE} {k : Nat} {p1 p2 p3 pos : Pos} (he : PE X e te) : PE X (.Subscript e (.Slice none none (some (.UnaryOp .USub (.Constant (.int 1) k p1) p2)) p3) pos) (tRevG X.K te) :=
  pe_weak (pe_revL (pe_cut he)) fun σ H Q q => ⟨_, q, fun _ _ ⟨a, xs, h1, h2, h3⟩ => ⟨a, xs, h1, h2, fun p hp => h3.go p hp⟩⟩
theorem pe_revK {K : PySem.W.Frag} (h : X.K = K) {e : Expr} {te : TE} {k : Nat} {p1 p2 p3 pos : Pos} (he : PE X e te) : PE X (.Subscript e (.Slice none none (some (.UnaryOp .USub (.Constant (.int 1) k p1) p2)) p3) pos) (tRevG K te) := h ▸ pe_revG he
end
end My
set_option Elab.async false
set_option linter.all false
set_option maxRecDepth 100000
set_option maxHeartbeats 4000000
/-! Lists of objects, pair by pair; comprehensions that make objects; sorting of objects by their data. -/
namespace My
open PySem PySem.Spec PyProof.Rows L2
open PySem.W (AllAlike Sortable dataLe)
def AllR {α : Type} (R : V → α → Prop) (vs : List V) (xs : List α) : Prop := vs.length = xs.length ∧ ∀ (i : Nat) v x, vs[i]? = some v → xs[i]? = some x → R v x
section
variable {α β : Type} {R S : V → α → Prop} {vs us : List V} {xs ys : List α}
theorem AllR.nil : AllR R [] [] := ⟨rfl, fun i v x h => by cases h⟩
theorem AllR.mono (h : AllR R vs xs) (k : ∀ v x, R v x → S v x) : AllR S vs xs := ⟨h.1, fun i v x h1 h2 => k v x (h.2 i v x h1 h2)⟩
theorem AllR.get (h : AllR R vs xs) {i : Nat} {v : V} (hi : vs[i]? = some v) : ∃ x, xs[i]? = some x ∧ R v x := by
  have hlt : i < vs.length := (List.getElem?_eq_some_iff.mp hi).1
  have hr : xs[i]? = some (xs[i]'(by rw [← h.1]; exact hlt)) := List.getElem?_eq_getElem _
  exact ⟨_, hr, h.2 i v _ hi hr⟩
theorem AllR.row (h : AllR R vs xs) {i : Nat} {x : α} (hi : xs[i]? = some x) : ∃ v, vs[i]? = some v ∧ R v x := by
  have hlt : i < xs.length := (List.getElem?_eq_some_iff.mp hi).1
  have hr : vs[i]? = some (vs[i]'(by rw [h.1]; exact hlt)) := List.getElem?_eq_getElem _
  exact ⟨_, hr, h.2 i _ x hr hi⟩
theorem AllR.append (h : AllR R vs xs) (k : AllR R us ys) : AllR R (vs ++ us) (xs ++ ys) := by
  refine ⟨by simp [h.1, k.1], fun i v x h1 h2 => ?_⟩
  by_cases z : i < vs.length
  · rw [List.getElem?_append_left z] at h1
    rw [List.getElem?_append_left (by rw [← h.1]; exact z)] at h2
    exact h.2 i v x h1 h2
  · rw [List.getElem?_append_right (by omega)] at h1
    rw [List.getElem?_append_right (by rw [← h.1]; omega), ← h.1] at h2
    exact k.2 _ v x h1 h2
theorem AllR.one {v : V} {x : α} (h : R v x) : AllR R [v] [x] := ⟨rfl, fun i u y h1 h2 => by
  cases i with
  | zero =>
    cases h1
    cases h2
    exact h
  | succ n => cases h1⟩
theorem AllR.snoc (h : AllR R vs xs) {v : V} {x : α} (k : R v x) : AllR R (vs ++ [v]) (xs ++ [x]) := h.append (AllR.one k)
theorem AllR.take (h : AllR R vs xs) (n : Nat) : AllR R (vs.take n) (xs.take n) := by
  refine ⟨by simp [h.1], fun i v d h1 h2 => ?_⟩
  rw [List.getElem?_take] at h1 h2
  split at h1
  · rename_i z
    rw [if_pos z] at h2
    exact h.2 i v d h1 h2
  · cases h1
theorem AllR.dp {K : PySem.W.Frag} {H : Hp} {e : α → PyData} : ∀ {vs : List V} {xs : List α}, AllR R vs xs → (∀ v x, R v x → Dp K H v (e x)) → DpAll K H vs (xs.map e)
  | [], [], _, _ => .nil
  | [], _ :: _, h, _ => by cases h.1
  | _ :: _, [], h, _ => by cases h.1
  | v :: vs, x :: xs, h, k => .cons (k v x (h.2 0 v x rfl rfl)) (AllR.dp ⟨by simpa using h.1, fun i u y h1 h2 => h.2 (i + 1) u y h1 h2⟩ k)
/-- sorted objects, by the data of them -/
theorem AllR.sort (key : α → PyData) (h : AllR R vs xs) : AllR R (zsort vs (xs.map key)) (xs.mergeSort (dataLe false key)) := by
  have e1 : zsort vs (xs.map key) = ((vs.zip xs).mergeSort (fun p q => dataLe false key p.2 q.2)).map (·.1) := by
    unfold zsort
    have e : vs.zip (xs.map key) = (vs.zip xs).map (fun p => (p.1, key p.2)) := by
      rw [List.zip_map_right]
      rfl
    rw [e, ← List.map_mergeSort (r := fun p q => dataLe false key p.2 q.2) (fun _ _ _ _ => rfl), List.map_map]
    rfl
  have e2 : xs.mergeSort (dataLe false key) = ((vs.zip xs).mergeSort (fun p q => dataLe false key p.2 q.2)).map (·.2) := by
    rw [List.map_mergeSort (s := dataLe false key) (fun _ _ _ _ => rfl), List.map_snd_zip]
    rw [h.1]
    exact Nat.le_refl _
  rw [e1, e2]
  have hp := List.mergeSort_perm (vs.zip xs) (fun p q => dataLe false key p.2 q.2)
  generalize (vs.zip xs).mergeSort (fun p q => dataLe false key p.2 q.2) = Z at hp
  refine ⟨by simp, fun i v x h1 h2 => ?_⟩
  rw [List.getElem?_map] at h1 h2
  cases z : Z[i]? with
  | none => rw [z] at h1; cases h1
  | some p =>
    rw [z] at h1 h2
    cases h1
    cases h2
    have hm : p ∈ vs.zip xs := hp.mem_iff.mp (List.mem_of_getElem? z)
    obtain ⟨k, hk⟩ := List.getElem?_of_mem hm
    rw [List.getElem?_zip_eq_some] at hk
    exact h.2 k _ _ hk.1 hk.2
theorem none_of {H H' : Hp} {p : Addr} (e : Ex H H') (h : H' p = none) : H p = none := by
  cases z : H p with
  | none => rfl
  | some o => rw [e _ _ z] at h; cases h
theorem ne_some {H H' : Hp} {p D : Addr} (e : Ex H H') (h : H' p = none) (hD : H D ≠ none) : p ≠ D := fun z => hD (none_of e (z ▸ h))
/-- a comprehension without tests over a list, each element an object (or any value) that R tells -/
theorem lc_objL {K : PySem.W.Frag} {a : Addr} {xs : List V} {ys : List α} {R : Hp → V → α → Prop} {g : TG} {te : TE} {vs : List Nat} {σ : L2.St} {H1 : Hp} {D : Addr} {Qd : Hp → Prop} (hx : SqL K H1 a xs) (hD : H1 D = none) (hl : ys.length = xs.length) (hz : xs.length ≤ sizeLine)
    (st : ∀ H' H'' v y, R H' v y → Exj D H' H'' → R H'' v y)
    (he : ∀ (i : Nat) x y H', Ex H1 H' → H' D ≠ none → xs[i]? = some x → ys[i]? = some y → ∀ (N : VK) (Z : Hp → Prop), (∀ v H2, Ex H' H2 → R H2 v y → N v H2) → g x (wipe σ vs) H' fun σ2 H2 => wipe σ2 vs = wipe σ vs ∧ tYes σ2 H2 fun b H3 => if b = true then te σ2 H3 N else Z H3)
    (k : ∀ H' us, Ex H1 H' → H' D = some (.lst us) → AllR (R H') us ys → Qd H') :
    ∃ W : Nat → Nat → Hp → Prop, (∃ m, W 0 m (upd H1 D (.lst []))) ∧ ∀ i m H, W i m H →
      ((Itl K a).stop i H ∧ Qd H) ∨ ((Itl K a).go i H ∧ ∃ Nx : Hp → Prop, (∀ H', Nx H' → ∃ m', m' < m ∧ W (i + 1) m' H') ∧ ∀ x H', (Itl K a).yld i H x H' → g x (wipe σ vs) H' fun σ2 H2 => wipe σ2 vs = wipe σ vs ∧ tYes σ2 H2 fun b H3 =>
        if b = true then te σ2 H3 fun y H4 => ∃ acc, H4 D = some (.lst acc) ∧ acc.length < sizeLine ∧ Nx (upd H4 D (.lst (acc ++ [y]))) else Nx H3) := by
  refine lc_it (walk_list (K := K) (a := a) (xs := xs)) (fun i H' => ∃ us, Ex H1 H' ∧ H' D = some (.lst us) ∧ us.length = i ∧ AllR (R H') us (ys.take i)) ⟨[], Evl.Ex.new hD, upd_same, rfl, AllR.nil⟩ (fun i H' _ ⟨_, e, _⟩ => Evl.ex_l e hx) ?_ ?_
  · rintro i x H' H3 hi ⟨us, e', d', l', a'⟩ ⟨rfl, hv⟩
    have hy : ys[i]? = some (ys[i]'(by omega)) := List.getElem?_eq_getElem (by omega)
    refine he i x _ H3 e' (fun z => by rw [d'] at z; cases z) hv hy _ _ fun v H2 e2 r2 => ⟨us, e2 _ _ d', by omega, us ++ [v], Evl.Ex.mut (e'.trans e2) hD, upd_same, by simp [l'], ?_⟩
    rw [List.take_add_one, hy]
    have y1 : Exj D H2 (upd H2 D (.lst (us ++ [v]))) := (Exj.refl _ _).upd
    exact AllR.snoc (a'.mono fun u y r => st _ _ u y (st _ _ u y r (Exj.of e2)) y1) (st _ _ _ _ r2 y1)
  · rintro H' ⟨us, e', d', l', a'⟩
    rw [List.take_of_length_le (by omega)] at a'
    exact k H' us e' d' a'
end
end My
set_option Elab.async false
set_option linter.all false
set_option maxRecDepth 100000
set_option maxHeartbeats 4000000
/-! set(xs) of a list of ints as a set whose order is known; sorted(set(xs)); x in xs of nested data; a + b of own objects. -/
namespace My
open PySem PySem.Spec PyProof.Rows L2 PySem.SeqAt
abbrev nset (w : World) : Obj := { cls := .type "set", dict := none, data := .set #[] 0 (.fresh 0 0 (!w.params.followText "set-order")) }
section
variable {P : Program} {w : World} {A : Around} {E : Value → Shared → Prop} {s : Shared}
theorem call_set_lst {l : Addr} {xs : Array Value} (ns : List Int) {Q : Value → Shared → Prop} (hd : A.handled = none) (ha : s.heap.IsList l xs) (hi : IntsAre xs.toList ns) (hz : ns.length + 1 < scanBound)
    (k : ∀ (h1 : Heap) (tk c : Nat), SetR w h1 s.heap.objs.size (fun j => decide (j ∈ ns)) c → c ≤ ns.length → (∀ b o, s.heap.get? b = some o → h1.get? b = some o) → Q (.ref s.heap.objs.size) { s with heap := h1, toks := tk }) :
    wpAny (model P w) A (call (.type "set") [.ref l]) Q E s := by
  have nl : xs.size = ns.length := (Array.length_toList (xs := xs)).symm.trans hi.length
  obtain ⟨mc, ml, m0⟩ := F.called_set.mro; have m1 := F.called_set.made; have m2 := F.called_set.sub
  refine wpAny_call (codeAny_of_tree (show wpAny _ _ (callAny (.type "set") _) _ _ _ from wpAny_pure ⟨Code.quiet_builtin _ (by decide +kernel), codeAny_builtin F.entry_type_call ?_⟩))
  rw [Around.under_plain (weight_type_call_type "set" [.ref l] []) (by rfl)]
  have m3 := F.called_set.notType; have m4 := F.called_set.canCreate; have m5 := F.typeCall_set_1 (.ref l)
  repeat (any_goals (first | assumption | wp_step))
  refine codeAny_mono (code_set_led1 (.ref l) (E := E) (Q₁ := fun o s1 => o = .ref s.heap.objs.size ∧ s1 = { s with heap := s.heap.push (nset w) }) ⟨rfl, rfl⟩) fun r s1 hr => ?_
  rcases r with e | fl
  · exact hr
  rcases fl with _ | _ | _ | ob
  all_goals first | exact hr.elim | skip
  obtain ⟨rfl, rfl⟩ := hr
  have gS : (s.heap.push (nset w)).get? s.heap.objs.size = some (nset w) := Heap.get?_push_size _ rfl
  have tS : Shared.TypeIs { s with heap := s.heap.push (nset w) } (.ref s.heap.objs.size) "set" := ⟨_, gS, rfl⟩
  have m6 := F.called_set.init.lookup; have m7 := F.called_set.init.bind (.ref s.heap.objs.size)
  repeat (any_goals (first | assumption | wp_step))
  refine codeAny_mono (codeAny_call_builtin (R := wants (fun r s2 => r = .none ∧ ∃ h1 tk c, s2 = { s with heap := h1, toks := tk } ∧ SetR w h1 s.heap.objs.size (fun j => decide (j ∈ ns)) c ∧ c ≤ ns.length ∧ ∀ b o, s.heap.get? b = some o → h1.get? b = some o) E) F.called_set.init.plain F.entry_set_init (check_set_init_1 tS ?_)) fun r2 s2 hr2 => ?_
  · obtain ⟨⟨oc, od, ot, os⟩, ho, c1, m, c2⟩ := ha
    simp only at c1 c2
    subst c1; subst c2
    have ho1 : (s.heap.push (nset w)).get? l = some ⟨.type "list", od, .seq xs m, os⟩ := Heap.get?_push_of_some _ ho
    have b1 := F.sub_list_set; have b2 := F.sub_list_frozenset; have b3 : (Value.type "list" == Value.type "dict") = false := by decide
    have hl1 : (s.heap.push (nset w)).IsList l xs := ⟨_, ho1, rfl, m, rfl⟩
    unfold Builtin.«set.__init__» noKeywords Builtin.Frozenset.updateFrom
    generalize hI : pyIter = PI
    wp_walk
    subst hI
    refine wpAny_pyIter_list hl1 (wpAny_bind (wpAny_runValue ?_))
    have lS : l < s.heap.objs.size := Heap.lt_size ho
    have d3 : A.in1.in1.in1.handled = none := by simp [hd]
    have e1 : (s.heap.push (nset w)).objs.size = s.heap.objs.size + 1 := Heap.size_push ..
    have lI : l ≠ (s.heap.push (nset w)).objs.size := by rw [e1]; exact Nat.ne_of_lt (Nat.lt_succ_of_lt lS)
    have nf : s.heap.objs.size ∉ [(s.heap.push (nset w)).objs.size, l] := by
      rw [e1]; intro z
      rcases List.mem_cons.mp z with q | q
      · exact absurd q (Nat.ne_of_lt (Nat.lt_succ_self _))
      · exact absurd (List.mem_singleton.mp q) (Nat.ne_of_gt lS)
    have vs : ∀ (i : Nat) (v : Value), xs[i]? = some v → ∃ k t, ns[i]? = some k ∧ v = .int k t := fun i v hv => by
      have il : i < ns.length := nl ▸ (Array.getElem?_eq_some_iff.mp hv).1
      obtain ⟨t, e⟩ := hi.int_at i v (by simpa using hv)
      exact ⟨ns[i], t, List.getElem?_eq_getElem il, by rw [e, List.getD_eq_getElem?_getD, List.getElem?_eq_getElem il]; rfl⟩
    refine set_update_ints ((Walks.list d3 _ l lI xs).toS) s.heap.objs.size nf ns nl hz vs (xs.size - 0) 0 _ (by omega) (Nat.zero_le _) ⟨⟨_, Heap.get?_push_size _ rfl, rfl, rfl⟩, hl1.push _⟩ ⟨0, Nat.le_refl 0, setR_new_at (Heap.get?_push_of_some _ gS)⟩ ?_
    intro s3 c3 hm hc3 hS3
    obtain ⟨h3, g3, dr3, tk3, o3⟩ := s3
    have q1 : g3 = s.gens := hm.gens; have q2 : dr3 = s.drawn := hm.drawn; have q3 : o3 = s.os := hm.os
    subst q1; subst q2; subst q3
    refine (show wpAny _ _ _ _ _ _ from wpAny_pure (show wpAny _ _ (ret Value.none) _ _ _ from wpAny_pure ⟨rfl, h3, tk3, c3, rfl, hS3, nl ▸ hc3, fun b o e => ?_⟩))
    have bl : b < s.heap.objs.size := Heap.lt_size e
    refine hm.heap b o ?_ (Heap.get?_push_of_some _ (Heap.get?_push_of_some _ e))
    rw [e1]
    intro z
    rcases List.mem_cons.mp z with q | q
    · exact absurd q (Nat.ne_of_lt bl)
    · exact absurd (List.mem_singleton.mp q) (Nat.ne_of_lt (Nat.lt_succ_of_lt bl))
  · rcases r2 with e | fl
    · exact hr2
    rcases fl with _ | _ | _ | v
    all_goals first | exact hr2.elim | skip
    obtain ⟨rfl, h1, tk, c, rfl, hS, hc, hk⟩ := hr2
    repeat (any_goals (first | assumption | wp_step))
    exact k _ _ _ hS hc hk
end
section
variable {X : Cx}
/-- sorted(set(xs)) -/
def tSortSet (K : PySem.W.Frag) (ta : TE) : TE := fun σ H Q => ta σ H fun x H1 => ∃ (l : Addr) (ns : List Int), x = V.ref l ∧ SqL K H1 l (ns.map V.int) ∧ ns.length < 64 ∧ ∀ ms : List Int, ms.Pairwise (· < ·) → (∀ k, k ∈ ms ↔ k ∈ ns) → New (.lst (ms.map V.int)) H1 Q
theorem pe_sortSet {a : Expr} {ta : TE} {p p2 q pos : Pos} (hg : Gl X "sorted") (hm : X.mg "sorted" = none) (hg2 : Gl X "set") (hm2 : X.mg "set" = none) (ha : PE X a ta) (hc : X.calm = true := by rfl)
    (na : starEach [a] X.env = (false, eval a X.env) :: starEach [] X.env := by rfl) : PE X (.Call (.Name "sorted" p) [.Call (.Name "set" p2) [a] [] q] [] pos) (tSortSet X.K ta) := by
  refine ⟨fun pins s σ H Q I h => ?_⟩
  refine Call_ (ld_blt I hg hm (show bootBuiltins "sorted" = some (.builtin "sorted") by decide +kernel) (PyProof.Rows.callWith_builtin1 (PyProof.Rows.args_cons ?_ rfl) rfl rfl))
  refine Call_ (ld_blt I hg2 hm2 PyProof.Rows.boot_set (PyProof.Rows.callWith_type1 (PyProof.Rows.args_cons (thn (ha.run pins s σ H _ I h) fun v s1 ⟨x, H1, I1, r1, q1⟩ => PyProof.Rows.args_nil ?_) na) na rfl))
  obtain ⟨l, ns, rfl, hq, hz, q1⟩ := q1
  cases r1
  obtain ⟨its, r, pl, _⟩ := I1.list hq
  have hlen : its.length = ns.length := by rw [← r.length, List.length_map]
  refine call_set_lst ns (I1.ok.hd hc) pl.isList (by simpa using r.ints) (by unfold scanBound; omega) fun h1 tk c hS hc1 hk => ?_
  refine PyProof.Rows.args_nil ?_
  have I2 : Inv X pins σ H1 { s1 with heap := h1, toks := tk } := I1.kept hk
  refine sorted_set hS (I2.ok.hd hc) (by omega) fun s' p' out c' ms kp g o hp hgt hi hs hmem hl => ?_
  have ml : (ms.map V.int).length ≤ sizeLine := by rw [List.length_map, hl]; exact Nat.le_trans (show _ ≤ 64 by omega) (by decide)
  have hn : H1 p' = none := I2.hok.fresh hp
  have J : Inv X pins σ (upd H1 p' (.lst (ms.map V.int))) { ({ s1 with heap := h1, toks := tk } : Shared) with heap := s'.heap, gens := s'.gens, drawn := s'.drawn, toks := s'.toks } :=
    I2.call (ch := []) (Un.laid kp hp hn) (I2.hok.laid kp hp ⟨ml, out.toList, c', vals_of_ints hi, hgt⟩) (by rw [g]; exact I2.bare) (fun _ z => nomatch z)
  have e : s' = { ({ s1 with heap := h1, toks := tk } : Shared) with heap := s'.heap, gens := s'.gens, drawn := s'.drawn, toks := s'.toks } := by
    obtain ⟨_, _, _, _, _⟩ := s'
    cases o
    rfl
  rw [e]
  exact ⟨.ref p', _, J, rfl, (q1 ms hs (fun k => by rw [hmem]; simp)).go p' hn⟩
theorem u65 {k : Nat} {A : Around} (r : Room k A) : A.units + 65 < cLine := by have := r.un; omega
/-- x in xs, x not in xs of nested data -/
def rInD (neg : Bool) (K : PySem.W.Frag) : R2 := fun x y H Q => ∃ d ds, Dp K H x d ∧ Dp K H y (.list ds) ∧ SeqAt.shaped d = true ∧ SeqAt.shaped (.list ds) = true ∧ Q (.bl (if neg = true then !(ds.any fun e => PyData.eqv e d) else ds.any fun e => PyData.eqv e d)) H
theorem op_inD (hu : X.A.units + 65 < cLine) : OpR X (compareOp .In) (rInD false X.K) := by
  intro pins s σ H x y v u Q I rx ry ⟨d, ds, hd, he, sd, se, q⟩
  obtain ⟨as, r1⟩ := Dp.reads I d x v hd rx
  obtain ⟨bs, r2⟩ := Dp.reads I _ y u he ry
  exact in_list_reads r2 r1 (canLay_of_shaped se) (canLay_of_shaped sd) (room_in_shaped sd hu) ⟨.bl _, H, I, rfl, q⟩
theorem op_notInD (hu : X.A.units + 65 < cLine) : OpR X (compareOp .NotIn) (rInD true X.K) := by
  intro pins s σ H x y v u Q I rx ry ⟨d, ds, hd, he, sd, se, q⟩
  obtain ⟨as, r1⟩ := Dp.reads I d x v hd rx
  obtain ⟨bs, r2⟩ := Dp.reads I _ y u he ry
  exact notIn_list_reads r2 r1 (canLay_of_shaped se) (canLay_of_shaped sd) (room_in_shaped sd hu) ⟨.bl _, H, I, rfl, q⟩
variable {CX : CXT} {n : Nat} {f C : Addr} {fd : FuncData} {ps : List Str} {sp : Sp} {E : XK}
/-- a + b of an own class -/
def rAddO (C : Addr) (sp : Sp) (E : XK) : R2 := fun x y H Q => ∃ a b dx fs dy gs, x = .ref a ∧ y = .ref b ∧ H a = some (.ins C dx fs) ∧ H b = some (.ins C dy gs) ∧ sp [.ref a, .ref b] H (fun v H' => ∃ r, v = .ref r ∧ Q (.ref r) H') E
theorem op_addO (F : FnOk X.prog X.w X.K X.mg X.base CX n f fd ps sp) (hr : Room n X.A) (hs : PySem.W.findIn X.K (.ref C) "__add__" = some (some (.ref f))) (hf : PySem.W.isFn X.K (.ref f) = true) (hc : PySem.W.selfFirst X.K C = true) (hb : Binds X.K fd ps []) (hx : Passes CX X E) : OpR X (binaryOp .Add) (rAddO C sp E) := by
  intro pins s σ H x y v u Q I rx ry h
  obtain ⟨a, b, dx, fs, dy, gs, rfl, rfl, ha, hb', h⟩ := h
  cases rx
  cases ry
  obtain ⟨mA, J, _⟩ := ins_get I.hok ha
  obtain ⟨mB, J', _⟩ := ins_get I.hok hb'
  obtain ⟨od, J, _⟩ := J.look
  obtain ⟨od', J', _⟩ := J'.look
  obtain ⟨m, hF⟩ := I.fr
  refine PySem.W.binop_K (op := .Add) hF I.ok.mod.kin J J'.type hc hs hf ?_
  refine wpAny_mono (run_here (vs := [V.ref a, V.ref b]) F hr hb hx I (.cons rfl (.cons rfl .nil)) h) (fun u s' z => ?_) fun _ _ e => e
  obtain ⟨v, H', I', rv, r, rfl, q⟩ := z
  cases rv
  exact ⟨.ref r, H', I', rfl, q⟩
end
end My
set_option Elab.async false
set_option linter.all false
set_option maxRecDepth 100000
set_option maxHeartbeats 4000000
/-! [x for x in xs if t], xs a list of ints. -/
namespace My
open PySem PySem.Spec PyProof.Rows L2
theorem mapI_at {ts : List Int} {i : Nat} {x : V} (h : (ts.map V.int)[i]? = some x) : ∃ t, ts[i]? = some t ∧ x = V.int t := by
  rw [List.getElem?_map] at h
  cases q : ts[i]? with
  | none => rw [q] at h; cases h
  | some t => rw [q] at h; cases h; exact ⟨t, rfl, rfl⟩
theorem lc_filtI {K : PySem.W.Frag} {a : Addr} {ns : List Int} {p : Int → Bool} {j : Nat} {tt : TT} {te : TE} {vs : List Nat} {σ : L2.St} {H1 : Hp} {D : Addr} {Qd : Hp → Prop} (hx : SqL K H1 a (ns.map V.int)) (hD : H1 D = none) (hz : ns.length ≤ 1000)
    (hw : ∀ x, wipe ((wipe σ vs).set j (some x)) vs = wipe σ vs)
    (ht : ∀ n H', n ∈ ns → Ex H1 H' → ∀ R : Bool → Hp → Prop, (∀ H2, Ex H' H2 → R (p n) H2) → tt ((wipe σ vs).set j (some (.int n))) H' R)
    (he : ∀ n H' (N : VK), N (.int n) H' → te ((wipe σ vs).set j (some (.int n))) H' N)
    (k : ∀ H', Ex H1 H' → H' D = some (.lst ((ns.filter p).map V.int)) → Qd H') :
    ∃ W : Nat → Nat → Hp → Prop, (∃ m, W 0 m (upd H1 D (.lst []))) ∧ ∀ i m H, W i m H →
      ((Itl K a).stop i H ∧ Qd H) ∨ ((Itl K a).go i H ∧ ∃ Nx : Hp → Prop, (∀ H', Nx H' → ∃ m', m' < m ∧ W (i + 1) m' H') ∧ ∀ x H', (Itl K a).yld i H x H' → gName j x (wipe σ vs) H' fun σ2 H2 => wipe σ2 vs = wipe σ vs ∧ tt σ2 H2 fun b H3 =>
        if b = true then te σ2 H3 fun y H4 => ∃ acc, H4 D = some (.lst acc) ∧ acc.length < sizeLine ∧ Nx (upd H4 D (.lst (acc ++ [y]))) else Nx H3) := by
  refine lc_it (walk_list (K := K) (a := a) (xs := ns.map V.int)) (fun i H' => Ex H1 H' ∧ H' D = some (.lst (((ns.take i).filter p).map V.int))) ⟨Evl.Ex.new hD, upd_same⟩ (fun i H' _ z => Evl.ex_l z.1 hx) ?_ ?_
  · rintro i v HX H3 hi ⟨e3, d3⟩ ⟨rfl, hv⟩
    obtain ⟨n, hn, rfl⟩ := mapI_at hv
    rw [List.length_map] at hi
    refine ⟨hw _, ?_⟩
    show tt ((wipe σ vs).set j (some (.int n))) _ _
    refine ht n _ (List.mem_of_getElem? hn) e3 _ fun H4 e4 => ?_
    rw [take_snoc hn, List.filter_append, List.filter_cons]
    cases q : p n with
    | true =>
      refine iteT (he n _ _ ⟨_, e4 _ _ d3, ?_, Evl.Ex.mut (e3.trans e4) hD, ?_⟩)
      · rw [List.length_map]
        refine Nat.lt_of_le_of_lt (List.length_filter_le _ _) ?_
        rw [List.length_take]
        exact Nat.lt_of_le_of_lt (show _ ≤ 1000 by omega) (by decide)
      · rw [upd_same, List.map_append]
        rfl
    | false =>
      refine iteF ⟨e3.trans e4, ?_⟩
      rw [e4 _ _ d3]
      simp
  · rintro H' ⟨e', d'⟩
    rw [List.length_map, List.take_length] at d'
    exact k H' e' d'
end My
namespace My
open PySem PySem.Spec PyProof.Rows L2
/-- a walk within a comprehension -/
theorem piK {X : Cx} {K : PySem.W.Frag} {r : PySem.W.Frag → TE → TI} {tg it : Expr} {tl : TE} (h : X.K = K) (p : PI X tg it (r X.K tl)) : PI X tg it (r K tl) := h ▸ p
/-- lists of lists of ints, sorted -/
def srtL (L : List (List Int)) : List (List Int) := L.mergeSort (PySem.W.dataLe false (eL PyData.int))
theorem rowsLe : PySem.W.dataLe false (eL PyData.int : List Int → PyData) = fun p q => decide (p ≤ q) := PySem.W.dataLe_rows (β := List Int) id
theorem srtL_congr {A B : List (List Int)} (h : A.Perm B) : srtL A = srtL B := by
  unfold srtL
  rw [rowsLe]
  have pw : ∀ L : List (List Int), (L.mergeSort (fun p q => decide (p ≤ q))).Pairwise (· ≤ ·) := fun L => by
    have := List.pairwise_mergeSort (le := fun (p q : List Int) => decide (p ≤ q)) (fun a b c h1 h2 => by simp at *; exact List.le_trans h1 h2) (fun a b => by simpa using List.le_total a b) L
    exact this.imp fun h => by simpa using h
  exact List.Perm.eq_of_pairwise (le := (· ≤ ·)) (fun a b _ _ h1 h2 => List.le_antisymm h1 h2) (pw A) (pw B) ((List.mergeSort_perm _ _).trans (h.trans (List.mergeSort_perm _ _).symm))
theorem srtL_len (L : List (List Int)) : (srtL L).length = L.length := List.length_mergeSort ..
theorem inD_mem {α : Type} [DecidableEq α] {e : α → PyData} {n : Nat} (g : Good e n) (x : α) (L : List α) : ((L.map e).any fun d => PyData.eqv d (e x)) = decide (x ∈ L) := by
  rw [List.any_map, Bool.eq_iff_iff, List.any_eq_true, decide_eq_true_eq]
  constructor
  · rintro ⟨y, hy, h⟩
    have h : PyData.eqv (e y) (e x) = true := h
    rw [g.eqv] at h
    exact of_decide_eq_true h ▸ hy
  · intro h
    exact ⟨x, h, by show PyData.eqv (e x) (e x) = true; rw [g.eqv]; exact decide_eq_true rfl⟩
theorem alikeLs (cs : List (List Int)) : PySem.W.AllAlike (cs.map (eL PyData.int)) := PySem.W.AllAlike.of fun b b' => by
  unfold eL
  rw [PySem.W.alike]
  exact PySem.W.alike_ints b b'
theorem sortLs (cs : List (List Int)) : PySem.W.Sortable (cs.map (eL PyData.int)) := PySem.W.Sortable.others fun b => ⟨(by intro z; cases z), (by intro xs z; cases z)⟩
theorem depLs (cs : List (List Int)) : ∀ d ∈ cs.map (eL PyData.int), d.depth ≤ 60 := fun d hd => by
  obtain ⟨c, _, rfl⟩ := List.mem_map.mp hd
  have := (goodL goodI).dep c
  omega
end My
set_option Elab.async false
set_option linter.all false
set_option maxRecDepth 100000
set_option maxHeartbeats 4000000
/-! enumerate of a tuple. -/
namespace My
open PySem PySem.Spec PyProof.Rows L2
set_option maxHeartbeats 1000000 in
theorem meets_enumerate_newT (l : Addr) (items : Array Value) :
    Meets (Builtin.«enumerate.__new__» ⟨[.type "enumerate", .ref l], []⟩) (fun _ R s => s.heap.IsTuple l items ∧
      R (.ok (.ret (.ref (s.heap.push { cls := .type "tuple_iterator", data := .fields #[.ref l, .int 0 0] }).objs.size)))
        { s with heap := (s.heap.push { cls := .type "tuple_iterator", data := .fields #[.ref l, .int 0 0] }).push { cls := .type "enumerate", data := .fields #[.none, .bool false, .ref s.heap.objs.size, rawInt 0, .none, .none] } }) :=
  .of_wp fun prog w A R s h => by
    obtain ⟨hp, g, d, tk, os⟩ := s; obtain ⟨h1, h⟩ := h
    have hsub := sub_enumerate
    have q1 : ∀ {A' : Around} {E : Value → Shared → Prop} {Q : Value → Shared → Prop}, Q (.ref hp.objs.size) ⟨hp.push { cls := .type "tuple_iterator", data := .fields #[.ref l, .int 0 0] }, g, d, tk, os⟩ → wpAny (model prog w) A' (pyIter (.ref l)) Q E ⟨hp, g, d, tk, os⟩ :=
      fun q => (begins_tuple l items).iter prog w _ _ ⟨hp, g, d, tk, os⟩ _ h1 q
    wp_walk using q1
    refine wpAny_stack_any fun st => wpAny_pure ?_
    split
    · rename_i c _ _ _ _ _
      cases (c == Value.type "enumerate")
      · wp_walk using q1
        exact ⟨_, rfl, h⟩
      · wp_walk using q1
        exact ⟨_, rfl, h⟩
    · wp_walk using q1
      exact ⟨_, rfl, h⟩
section
variable {prog : Program} {w : World} {A : Around} {E : Value → Shared → Prop} {s : Shared}
theorem call_enumerate_tuple {l : Addr} {items : Array Value} {Q : Value → Shared → Prop} (hL : s.heap.IsTuple l items)
    (h : ∀ h', IsEnum h' (s.heap.objs.size + 1) s.heap.objs.size 0 .none → h'.IsTupleIter s.heap.objs.size l 0 → h'.objs.size = s.heap.objs.size + 2 →
      (∀ b o, s.heap.get? b = some o → h'.get? b = some o) → Q (.ref (s.heap.objs.size + 1)) { s with heap := h' }) :
    wpAny (model prog w) A (call (.type "enumerate") [.ref l]) Q E s := by
  refine callType_new F.called_enumerate (by decide) (F.typeCall_enumerate_1 _) (F.newCall_enumerate_1 _) (fun obj => F.args_object_init_2 obj _) F.entry_enumerate_new
    (meets_enumerate_newT l items) ⟨hL, ?_⟩
  have hz : (s.heap.push { cls := .type "tuple_iterator", data := .fields #[.ref l, .int 0 0] }).objs.size = s.heap.objs.size + 1 := Heap.size_push ..
  show _ ∧ _
  rw [hz]
  have he : IsEnum ((s.heap.push { cls := .type "tuple_iterator", data := .fields #[.ref l, .int 0 0] }).push
      { cls := .type "enumerate", data := .fields #[.none, .bool false, .ref s.heap.objs.size, rawInt 0, .none, .none] }) (s.heap.objs.size + 1) s.heap.objs.size 0 .none := by
    have := Heap.get?_push_size (s.heap.push { cls := .type "tuple_iterator", data := .fields #[.ref l, .int 0 0] })
      (o := { cls := .type "enumerate", data := .fields #[.none, .bool false, .ref s.heap.objs.size, rawInt 0, .none, .none] }) rfl
    rw [hz] at this; exact this
  refine ⟨⟨_, he, rfl⟩, h _ he ⟨_, Heap.get?_push_of_some _ (Heap.get?_push_size _ rfl), rfl, rfl⟩ (by rw [Heap.size_push, hz]) fun b o x => Heap.get?_push_of_some _ (Heap.get?_push_of_some _ x)⟩
end
/-- the tuple at a as it stands at each turn, each item in a new pair -/
def Itet (K : PySem.W.Frag) (a : Addr) : It :=
  ⟨fun i H => ∃ (xs : List V) (x : V), SqT K H a xs ∧ xs[i]? = some x, fun i H v H' => ∃ T x, v = .ref T ∧ H T = none ∧ H' = upd H T (.tup [.int (i : Nat), x]) ∧ ∀ xs, SqT K H a xs → xs[i]? = some x, fun i H => ∃ xs : List V, SqT K H a xs ∧ xs.length = i⟩
theorem tup_apart {h : Heap} {e it a : Addr} {items : Array Value} {n : Int} {old : Value} {i : Nat} (he : IsEnum h e it n old) (hit : h.IsTupleIter it a i) (p : h.IsTuple a items) : a ≠ it ∧ a ≠ e := by
  obtain ⟨o, ho, hc, _⟩ := p
  obtain ⟨o2, ho2, hc2, _⟩ := hit
  refine ⟨fun z => ?_, fun z => ?_⟩
  · subst z
    rw [ho] at ho2
    cases ho2
    rw [hc] at hc2
    exact absurd hc2 (by decide)
  · subst z
    have he : h.get? a = _ := he
    rw [ho] at he
    cases he
    exact absurd (show Value.type "enumerate" = Value.type "tuple" from hc) (by decide)
theorem turn_enumT {P : Program} {w : World} {K : PySem.W.Frag} {elts : List Expr} {kk : Nat} {tpos : Pos} (a e it : Addr) :
    Turn P w K (.Tuple elts kk tpos) (Itet K a) [e, it] e (fun i h => (∃ old, IsEnum h e it ((i : Nat) : Int) old) ∧ h.IsTupleIter it a i ∧ e ≠ it) where
  mem := by simp
  obj := fun i h st b hb => by
    obtain ⟨⟨old, he⟩, ⟨o, ho, hc, hd⟩, _⟩ := st
    have e' : b = e ∨ b = it := by simpa using hb
    rcases e' with z | z
    · rw [z]; exact ⟨_, he, fun v q => nomatch q⟩
    · rw [z]; exact ⟨o, ho, fun v q => by rw [hd] at q; cases q⟩
  keep := fun i h h' st k => let ⟨⟨old, he⟩, hi, hne⟩ := st; ⟨⟨old, k e (by simp) _ he⟩, hi.at fun o q => k it (by simp) o q, hne⟩
  item := by
    intro X hP hw hK hc i pins s σ H E I hf st hg
    subst hP hw hK
    obtain ⟨⟨old, he⟩, hit, hne⟩ := st
    obtain ⟨xs, x, hq, hx⟩ := hg
    obtain ⟨its, rv, p, hz⟩ := I.tuple hq
    obtain ⟨u, hu, ru⟩ := rv.get hx
    have hel : e < s.heap.objs.size := Heap.lt_size he
    have hil : it < s.heap.objs.size := by obtain ⟨_, q, _⟩ := hit; exact Heap.lt_size q
    obtain ⟨na1, na2⟩ := tup_apart he hit p
    have hlt : i < its.toArray.size := by
      rw [List.size_toArray]
      exact (List.getElem?_eq_some_iff.mp hu).1
    refine wpAny_pyNext_enum_itemC (Draws.tuple (show X.A.in1.handled = none from I.ok.hd hc) it a na1 its.toArray) he ⟨hit, p⟩ hlt hne (by simp [hne, na2.symm]) fun x' h' tk hP ho hst' hT hsz hk => ?_
    have ex : x' = u := by
      have hP : its.toArray[i]? = some x' := hP
      simp only [List.getElem?_toArray] at hP
      rw [hu] at hP
      exact (Option.some.inj hP).symm
    subst ex
    refine ⟨_, rfl, wpAny_letOwnedTupleGo_enum (s := { s with heap := h', toks := tk + 1 }) ho fun h'' he' sb => ?_⟩
    have hT2 : h''.get? s.heap.objs.size = some { cls := .type "tuple", data := .seq #[.int i tk, x'] } := (sb.2 _ (Nat.ne_of_gt hel)).trans hT
    have new : ObjOk X.prog X.w (upd H s.heap.objs.size (.tup [.int (i : Nat), x])) h'' s.heap.objs.size (.tup [.int (i : Nat), x]) :=
      ⟨by show 2 ≤ sizeLine; decide, [.int i tk, x'], .cons ⟨_, rfl⟩ (.cons ru .nil), ⟨_, hT2, rfl, _, rfl⟩⟩
    have I1 : Inv X pins σ (upd H s.heap.objs.size (.tup [.int (i : Nat), x])) { s with heap := h'', toks := tk + 1 } :=
      I.turnedNew (ch := [e, it]) (fun b ob hb q => (sb.2 b (fun z => hb (by simp [z]))).trans (hk b ob (fun z => hb (by simp [z])) (fun z => hb (by simp [z])) q)) hf (Nat.le_refl _) new
    refine ⟨.ref s.heap.objs.size, _, I1, rfl, ⟨_, x, rfl, I.hok.fresh (Nat.le_refl _), rfl, fun ys hy => by rw [I.tuple_inj hy hq]; exact hx⟩, ⟨⟨x', ?_⟩, hst'.1.at fun o q => (sb.2 it (Ne.symm hne)).trans q, hne⟩, fun b hb => ?_⟩
    · have e1 : ((i + 1 : Nat) : Int) = (i : Int) + 1 := by omega
      rw [e1]; exact he'
    · have hb' : b < s.heap.objs.size := by
        have e' : b = e ∨ b = it := by simpa using hb
        rcases e' with z | z
        · rw [z]; exact hel
        · rw [z]; exact hil
      rw [upd_ne (Nat.ne_of_lt hb')]
      exact (hf b hb).1
  done := by
    intro X hP hw hK hc i pins s σ H E I hf st hg
    subst hP hw hK
    obtain ⟨⟨old, he⟩, hit, hne⟩ := st
    obtain ⟨xs, hq, hx⟩ := hg
    obtain ⟨its, rv, p, hz⟩ := I.tuple hq
    obtain ⟨f0, f1, f2, f3, f4, f5⟩ := hf it (by simp)
    have hl := rv.length
    obtain ⟨na1, na2⟩ := tup_apart he hit p
    have en : i = its.toArray.size := by
      rw [List.size_toArray]
      omega
    subst en
    exact wpAny_pyNext_enum_endD (Draws.tuple (show X.A.in1.handled = none from I.ok.hd hc) it a na1 its.toArray) he ⟨hit, p⟩ fun h' eb => ⟨rfl, I.turned (t' := s.toks) (fun b o hb q => eb b o hb q) f0 f1 f3 f4 f5⟩
  self := fun A i s Q E st h => let ⟨⟨_, he⟩, _⟩ := st; wpAny_pyIter_enum he h
def iEnumT (K : PySem.W.Frag) (ta : TA) : TI := fun σ H R => ta σ H fun vs H1 => ∃ a xs, vs = [.ref a] ∧ SqT K H1 a xs ∧ R (Itet K a) H1
theorem pi_enumT {X : Cx} {e : Expr} {ta : TA} {p pos tpos : Pos} {elts : List Expr} {kk : Nat} (hg : Gl X "enumerate") (hm : X.mg "enumerate" = none) (ha : PA X [e] ta) (hs : starEach [e] X.env = [(false, eval e X.env)] := by rfl) :
    PI X (.Tuple elts kk tpos) (.Call (.Name "enumerate" p) [e] [] pos) (iEnumT X.K ta) := by
  refine ⟨fun pins s σ H R I h => ?_⟩
  refine Call_ (ld_blt I hg hm boot_enumerate (PyProof.Rows.callWith_type1 (thn (ha.run pos pins s σ H _ I h) fun us s1 ⟨vs, H1, I1, r1, q1⟩ => ?_) hs rfl))
  obtain ⟨a, xs, ex, hq, q⟩ := q1
  subst ex
  cases r1 with
  | cons r rr =>
    cases rr
    cases r
    obtain ⟨its, rv, p', hz⟩ := I1.tuple hq
    refine call_enumerate_tuple p' fun h' he hit hsz hk => wpAny_pyIter_enum he ?_
    have I2 : Inv X pins σ H1 { s1 with heap := h' } := I1.kept (t' := s1.toks) hk
    refine ⟨s1.heap.objs.size + 1, [s1.heap.objs.size + 1, s1.heap.objs.size], _, _, H1, rfl, I2, turn_enumT a (s1.heap.objs.size + 1) s1.heap.objs.size, ⟨⟨.none, he⟩, hit, Nat.succ_ne_self _⟩, fun b hb => ?_, q⟩
    have e' : b = s1.heap.objs.size + 1 ∨ b = s1.heap.objs.size := by simpa using hb
    have hle : s1.heap.objs.size ≤ b := by
      rcases e' with z | z
      · rw [z]; exact Nat.le_add_right _ _
      · rw [z]; exact Nat.le_refl _
    exact I1.fpOk hle (I1.hok.fresh hle)
theorem walk_enumT {K : PySem.W.Frag} {a : Addr} {xs : List V} : Walk (Itet K a) xs.length (fun H => SqT K H a xs) (YPair (fun i => some (.int (i : Nat))) (fun i => xs[i]?)) := by
  refine ⟨fun i _ hi q => ⟨xs, xs[i], q, by simp [hi]⟩, fun _ q => ⟨xs, q, rfl⟩, fun i H v H' _ q y => ?_⟩
  obtain ⟨T, x, h1, h2, h3, h4⟩ := y
  exact ⟨T, .int (i : Nat), x, h1, h2, h3, rfl, h4 xs q⟩
end My
set_option Elab.async false
set_option linter.all false
set_option maxRecDepth 100000
set_option maxHeartbeats 4000000
/-! len(set(xs)) of a list of ints with doubles. -/
namespace My
open PySem PySem.Spec PyProof.Rows L2
/-- so many different ones -/
def Diff (ns : List Int) (c : Nat) : Prop := ∃ ms : List Int, ms.Nodup ∧ (∀ k, k ∈ ms ↔ k ∈ ns) ∧ ms.length = c
def tLenSetG (K : PySem.W.Frag) (ta : TE) : TE := fun σ H Q => ta σ H fun x H1 => ∃ (l : Addr) (ns : List Int), x = V.ref l ∧ SqL K H1 l (ns.map V.int) ∧ ns.length ≤ 2000 ∧ ∀ c : Nat, Diff ns c → Q (.int (c : Nat)) H1
theorem pe_lenSetG {X : Cx} {a : Expr} {ta : TE} {p p2 q pos : Pos} (hg : Gl X "len") (hm : X.mg "len" = none) (hg2 : Gl X "set") (hm2 : X.mg "set" = none) (ha : PE X a ta) (hc : X.calm = true := by rfl)
    (na : starEach [a] X.env = (false, eval a X.env) :: starEach [] X.env := by rfl) : PE X (.Call (.Name "len" p) [.Call (.Name "set" p2) [a] [] q] [] pos) (tLenSetG X.K ta) := by
  refine ⟨fun pins s σ H Q I h => ?_⟩
  refine Call_ (ld_blt I hg hm boot_len ?_)
  refine PyProof.Rows.callWith_builtin1 (PyProof.Rows.args_cons ?_ rfl) rfl rfl
  refine Call_ (ld_blt I hg2 hm2 PyProof.Rows.boot_set ?_)
  refine PyProof.Rows.callWith_type1 (PyProof.Rows.args_cons (thn (ha.run pins s σ H _ I h) fun v s1 ⟨x, H1, I1, r1, q1⟩ => PyProof.Rows.args_nil ?_) na) na rfl
  obtain ⟨l, ns, rfl, hq, hz, q1⟩ := q1
  cases r1
  obtain ⟨its, r, pl, _⟩ := I1.list hq
  refine call_set_lst ns (I1.ok.hd hc) pl.isList (by simpa using r.ints) (by unfold scanBound; omega) fun h1 tk c hS hc1 hk => ?_
  refine PyProof.Rows.args_nil ?_
  obtain ⟨o, es, ep, t, ho, hex, hd, _, hnd, hS2, _, hf, hn, _⟩ := hS
  have I2 : Inv X pins σ H1 { s1 with heap := h1, toks := tk } := I1.kept hk
  refine call_len_set ho hex hd hf (by rw [hn]; omega) ⟨.int c, H1, I2.tok _, ⟨_, by rw [hn]⟩, q1 c ⟨es.toList.map keyOf, hnd, fun k => ?_, ?_⟩⟩
  · rw [← hS2 k]
    simp
  · rw [List.length_map, Array.length_toList]
    exact hn
theorem diff_nodup {ns : List Int} {c : Nat} (h : Diff ns c) : c = ns.length ↔ ns.Nodup := by
  obtain ⟨ms, h1, h2, h3⟩ := h
  subst h3
  constructor
  · intro e
    -- ms is nodup, the same members, as long: ns has no doubles
    have : ∀ {ns ms : List Int}, ms.Nodup → (∀ k, k ∈ ms → k ∈ ns) → ns.length ≤ ms.length → ns.Nodup := fun {ns} => by
      induction ns with
      | nil => intro ms _ _ _; exact List.nodup_nil
      | cons x ns ih =>
        intro ms hm hs hl
        have h0 : x ∈ ms ∧ x ∉ ns := by
          by_cases a : x ∈ ms
          · refine ⟨a, fun b => ?_⟩
            have := nodup_len (l := ms) (m := ns) hm fun k hk => by
              rcases List.mem_cons.mp (hs k hk) with z | z
              · rw [z]; exact b
              · exact z
            rw [List.length_cons] at hl
            omega
          · exfalso
            have := nodup_len (l := ms) (m := ns) hm fun k hk => by
              rcases List.mem_cons.mp (hs k hk) with z | z
              · rw [z] at hk; exact absurd hk a
              · exact z
            rw [List.length_cons] at hl
            omega
        refine List.nodup_cons.mpr ⟨h0.2, ih (ms := ms.erase x) (hm.erase x) (fun k hk => ?_) ?_⟩
        · have hk' := List.mem_of_mem_erase hk
          rcases List.mem_cons.mp (hs k hk') with z | z
          · rw [z] at hk
            exact absurd hk (fun y => (List.Nodup.mem_erase_iff hm).mp y |>.1 rfl)
          · exact z
        · rw [List.length_erase_of_mem h0.1]
          rw [List.length_cons] at hl
          omega
    exact this h1 (fun k hk => (h2 k).mp hk) (by omega)
  · intro hn
    exact Nat.le_antisymm (nodup_len h1 fun k hk => (h2 k).mp hk) (nodup_len hn fun k hk => (h2 k).mpr hk)
end My
set_option Elab.async false
set_option linter.all false
set_option maxRecDepth 100000
set_option maxHeartbeats 4000000
/-! further comprehensions over lists: any target; kept objects. -/
namespace My
open PySem PySem.Spec PyProof.Rows L2
/-- no tests, any target, the values known -/
theorem lc_mapG {K : PySem.W.Frag} {a : Addr} {xs ys : List V} {g : TG} {te : TE} {vs : List Nat} {σ : L2.St} {H1 : Hp} {D : Addr} {Qd : Hp → Prop} (hx : SqL K H1 a xs) (hD : H1 D = none) (hl : ys.length = xs.length) (hz : xs.length ≤ sizeLine)
    (he : ∀ (i : Nat) x y H', Ex H1 H' → xs[i]? = some x → ys[i]? = some y → ∀ (N : VK) (Z : Hp → Prop), (∀ H2, Ex H' H2 → N y H2) → g x (wipe σ vs) H' fun σ2 H2 => wipe σ2 vs = wipe σ vs ∧ tYes σ2 H2 fun b H3 => if b = true then te σ2 H3 N else Z H3)
    (k : ∀ H', Ex H1 H' → H' D = some (.lst ys) → Qd H') :
    ∃ W : Nat → Nat → Hp → Prop, (∃ m, W 0 m (upd H1 D (.lst []))) ∧ ∀ i m H, W i m H →
      ((Itl K a).stop i H ∧ Qd H) ∨ ((Itl K a).go i H ∧ ∃ Nx : Hp → Prop, (∀ H', Nx H' → ∃ m', m' < m ∧ W (i + 1) m' H') ∧ ∀ x H', (Itl K a).yld i H x H' → g x (wipe σ vs) H' fun σ2 H2 => wipe σ2 vs = wipe σ vs ∧ tYes σ2 H2 fun b H3 =>
        if b = true then te σ2 H3 fun y H4 => ∃ acc, H4 D = some (.lst acc) ∧ acc.length < sizeLine ∧ Nx (upd H4 D (.lst (acc ++ [y]))) else Nx H3) := by
  refine lc_objL (R := fun _ v (y : V) => v = y) hx hD hl hz (fun _ _ _ _ r _ => r) (fun i x y H' e _ hx hy N Z kN => he i x y H' e hx hy N Z fun H2 e2 => kN y H2 e2 rfl) fun H' us e d r => k H' e ?_
  have : us = ys := by
    refine List.ext_getElem? fun i => ?_
    cases z : us[i]? with
    | none => rw [List.getElem?_eq_none (by rw [← r.1]; exact List.getElem?_eq_none_iff.mp z)]
    | some v =>
      obtain ⟨y, h1, h2⟩ := r.get z
      rw [h1, h2]
  rw [← this]
  exact d
/-- the items of which p holds, themselves -/
theorem lc_filtO {α : Type} {K : PySem.W.Frag} {a : Addr} {xs : List V} {ys : List α} {R : V → α → Prop} {p : α → Bool} {j : Nat} {tt : TT} {te : TE} {vs : List Nat} {σ : L2.St} {H1 : Hp} {D : Addr} {Qd : Hp → Prop} (hx : SqL K H1 a xs) (hR : AllR R xs ys) (hD : H1 D = none) (hz : xs.length ≤ 1000)
    (hw : ∀ x, wipe ((wipe σ vs).set j (some x)) vs = wipe σ vs)
    (ht : ∀ v y H', y ∈ ys → R v y → Ex H1 H' → ∀ Z : Bool → Hp → Prop, (∀ H2, Ex H' H2 → Z (p y) H2) → tt ((wipe σ vs).set j (some v)) H' Z)
    (he : ∀ v H' (N : VK), N v H' → te ((wipe σ vs).set j (some v)) H' N)
    (k : ∀ H' us, Ex H1 H' → H' D = some (.lst us) → AllR R us (ys.filter p) → Qd H') :
    ∃ W : Nat → Nat → Hp → Prop, (∃ m, W 0 m (upd H1 D (.lst []))) ∧ ∀ i m H, W i m H →
      ((Itl K a).stop i H ∧ Qd H) ∨ ((Itl K a).go i H ∧ ∃ Nx : Hp → Prop, (∀ H', Nx H' → ∃ m', m' < m ∧ W (i + 1) m' H') ∧ ∀ x H', (Itl K a).yld i H x H' → gName j x (wipe σ vs) H' fun σ2 H2 => wipe σ2 vs = wipe σ vs ∧ tt σ2 H2 fun b H3 =>
        if b = true then te σ2 H3 fun y H4 => ∃ acc, H4 D = some (.lst acc) ∧ acc.length < sizeLine ∧ Nx (upd H4 D (.lst (acc ++ [y]))) else Nx H3) := by
  refine lc_it (walk_list (K := K) (a := a) (xs := xs)) (fun i H' => ∃ us, Ex H1 H' ∧ H' D = some (.lst us) ∧ us.length ≤ i ∧ AllR R us ((ys.take i).filter p)) ⟨[], Evl.Ex.new hD, upd_same, Nat.le_refl _, AllR.nil⟩ (fun i H' _ ⟨_, e, _⟩ => Evl.ex_l e hx) ?_ ?_
  · rintro i v HX H3 hi ⟨us, e3, d3, l3, a3⟩ ⟨rfl, hv⟩
    obtain ⟨y, hy, r⟩ := hR.get hv
    refine ⟨hw _, ?_⟩
    show tt ((wipe σ vs).set j (some v)) _ _
    refine ht v y _ (List.mem_of_getElem? hy) r e3 _ fun H4 e4 => ?_
    rw [take_snoc hy, List.filter_append, List.filter_cons]
    cases q : p y with
    | true =>
      refine iteT (he v _ _ ⟨us, e4 _ _ d3, Nat.lt_of_le_of_lt (show _ ≤ 1000 by omega) (by decide), us ++ [v], Evl.Ex.mut (e3.trans e4) hD, upd_same, by simp; omega, ?_⟩)
      exact AllR.snoc a3 r
    | false =>
      refine iteF ⟨us, e3.trans e4, e4 _ _ d3, by omega, ?_⟩
      simpa using a3
  · rintro H' ⟨us, e', d', l', a'⟩
    rw [List.take_of_length_le (by rw [← hR.1]; exact Nat.le_refl _)] at a'
    exact k H' us e' d' a'
/-- ints of a range, with a test -/
theorem lc_filtR {lo : Int} {n : Nat} {p : Int → Bool} {j : Nat} {tt : TT} {te : TE} {vs : List Nat} {σ : L2.St} {H1 : Hp} {D : Addr} {Qd : Hp → Prop} (hD : H1 D = none) (hz : n ≤ 1000)
    (hw : ∀ x, wipe ((wipe σ vs).set j (some x)) vs = wipe σ vs)
    (ht : ∀ (i : Nat) H', i < n → Ex H1 H' → ∀ Z : Bool → Hp → Prop, (∀ H2, Ex H' H2 → Z (p (lo + i)) H2) → tt ((wipe σ vs).set j (some (.int (lo + i)))) H' Z)
    (he : ∀ v H' (N : VK), N v H' → te ((wipe σ vs).set j (some v)) H' N)
    (k : ∀ H', Ex H1 H' → H' D = some (.lst ((((List.range n).map fun i => lo + ((i : Nat) : Int)).filter p).map V.int)) → Qd H') :
    ∃ W : Nat → Nat → Hp → Prop, (∃ m, W 0 m (upd H1 D (.lst []))) ∧ ∀ i m H, W i m H →
      ((Itr lo n).stop i H ∧ Qd H) ∨ ((Itr lo n).go i H ∧ ∃ Nx : Hp → Prop, (∀ H', Nx H' → ∃ m', m' < m ∧ W (i + 1) m' H') ∧ ∀ x H', (Itr lo n).yld i H x H' → gName j x (wipe σ vs) H' fun σ2 H2 => wipe σ2 vs = wipe σ vs ∧ tt σ2 H2 fun b H3 =>
        if b = true then te σ2 H3 fun y H4 => ∃ acc, H4 D = some (.lst acc) ∧ acc.length < sizeLine ∧ Nx (upd H4 D (.lst (acc ++ [y]))) else Nx H3) := by
  refine lc_range (fun i H' => Ex H1 H' ∧ H' D = some (.lst ((((List.range i).map fun i => lo + ((i : Nat) : Int)).filter p).map V.int))) ⟨Evl.Ex.new hD, upd_same⟩ ?_ ?_
  · rintro i H3 hi ⟨e3, d3⟩
    refine ⟨hw _, ?_⟩
    show tt ((wipe σ vs).set j (some (.int (lo + i)))) _ _
    refine ht i _ hi e3 _ fun H4 e4 => ?_
    rw [List.range_succ, List.map_append, List.filter_append, List.map_cons, List.map_nil, List.filter_cons]
    cases q : p (lo + i) with
    | true =>
      refine iteT (he _ _ _ ⟨_, e4 _ _ d3, ?_, Evl.Ex.mut (e3.trans e4) hD, ?_⟩)
      · rw [List.length_map]
        refine Nat.lt_of_le_of_lt (List.length_filter_le _ _) ?_
        rw [List.length_map, List.length_range]
        exact Nat.lt_of_le_of_lt (show _ ≤ 1000 by omega) (by decide)
      · rw [upd_same, List.map_append]
        rfl
    | false =>
      refine iteF ⟨e3.trans e4, ?_⟩
      rw [e4 _ _ d3]
      simp
  · rintro H' ⟨e', d'⟩
    exact k H' e' d'
end My
set_option Elab.async false
set_option linter.all false
set_option maxRecDepth 100000
set_option maxHeartbeats 4000000
/-! Dicts whose keys are tuples of any depth (ints, texts, bools, None, tuples of these). -/
namespace My
open PySem PySem.Spec PyProof.Rows L2
/-! ### keys -/
mutual
/-- the thing x is the key k -/
inductive NIs (β : Bool) (K : PySem.W.Frag) (H : Hp) : NestedKey → V → Prop
  | none : NIs β K H .none .non
  | num (i : Int) : NIs β K H (.num i) (.int i)
  | bl (hb : β = true) (b : Bool) : NIs β K H (.num (if b = true then 1 else 0)) (.bl b)
  | text (x : Str) : NIs β K H (.text x) (.str x)
  | tup {a : Addr} {xs : List V} {ks : List NestedKey} : SqT K H a xs → NAll β K H ks xs → NIs β K H (.tup ks) (.ref a)
inductive NAll (β : Bool) (K : PySem.W.Frag) (H : Hp) : List NestedKey → List V → Prop
  | nil : NAll β K H [] []
  | cons {k : NestedKey} {v : V} {ks : List NestedKey} {vs : List V} : NIs β K H k v → NAll β K H ks vs → NAll β K H (k :: ks) (v :: vs)
end
variable {β : Bool}
/-- at j stands no tuple -/
def NTup (H : Hp) (j : Addr) : Prop := ∀ o, H j = some o → (∀ xs, o ≠ .tup xs) ∧ ∀ ob u, o ≠ .frz ob u
theorem NTup.lst {H : Hp} {j : Addr} {xs : List V} (h : H j = some (.lst xs)) : NTup H j := fun o e => by
  rw [h] at e
  cases e
  exact ⟨(fun _ z => nomatch z), (fun _ _ z => nomatch z)⟩
theorem sqT_keep {K : PySem.W.Frag} {H H' : Hp} {j a : Addr} {xs : List V} (e : Exj j H H') (n : NTup H j) : SqT K H a xs → SqT K H' a xs
  | .inl (.inl h) => .inl (.inl (e a _ (fun z => (n _ (z ▸ h)).1 _ rfl) h))
  | .inl (.inr ⟨o, h⟩) => .inl (.inr ⟨o, e a _ (fun z => (n _ (z ▸ h)).2 _ _ rfl) h⟩)
  | .inr h => .inr h
mutual
theorem NIs.map {K : PySem.W.Frag} {H H' : Hp} (e : ∀ a xs, SqT K H a xs → SqT K H' a xs) : ∀ (k : NestedKey) (v : V), NIs β K H k v → NIs β K H' k v
  | .none, _, h => by
    cases h
    exact .none
  | .num _, _, h => by
    cases h with
    | num => exact .num _
    | bl hb b => exact .bl hb b
  | .text _, _, h => by
    cases h
    exact .text _
  | .tup ks, _, h => by
    cases h with
    | tup h1 h2 => exact .tup (e _ _ h1) (NAll.map e ks _ h2)
theorem NAll.map {K : PySem.W.Frag} {H H' : Hp} (e : ∀ a xs, SqT K H a xs → SqT K H' a xs) : ∀ (ks : List NestedKey) (vs : List V), NAll β K H ks vs → NAll β K H' ks vs
  | [], _, h => by
    cases h
    exact .nil
  | k :: ks, _, h => by
    cases h with
    | cons h1 h2 => exact .cons (NIs.map e k _ h1) (NAll.map e ks _ h2)
end
theorem NIs.keep {K : PySem.W.Frag} {H H' : Hp} {j : Addr} {k : NestedKey} {v : V} (e : Exj j H H') (n : NTup H j) (h : NIs β K H k v) : NIs β K H' k v := NIs.map (fun _ _ => sqT_keep e n) k v h
theorem sqT_exN {K : PySem.W.Frag} {H H' : Hp} {a : Addr} {xs : List V} (e : Ex H H') : SqT K H a xs → SqT K H' a xs
  | .inl (.inl h) => .inl (.inl (e _ _ h))
  | .inl (.inr ⟨o, h⟩) => .inl (.inr ⟨o, e _ _ h⟩)
  | .inr h => .inr h
theorem NIs.ex {K : PySem.W.Frag} {H H' : Hp} {k : NestedKey} {v : V} (e : Ex H H') (h : NIs β K H k v) : NIs β K H' k v := NIs.map (fun _ _ => sqT_exN e) k v h
theorem NAll.ex {K : PySem.W.Frag} {H H' : Hp} {k : List NestedKey} {v : List V} (e : Ex H H') (h : NAll β K H k v) : NAll β K H' k v := NAll.map (fun _ _ => sqT_exN e) k v h
mutual
theorem NIs.up {K : PySem.W.Frag} {H : Hp} : ∀ (k : NestedKey) (v : V), NIs β K H k v → NIs true K H k v
  | .none, _, h => by
    cases h
    exact .none
  | .num _, _, h => by
    cases h with
    | num => exact .num _
    | bl hb b => exact .bl rfl b
  | .text _, _, h => by
    cases h
    exact .text _
  | .tup ks, _, h => by
    cases h with
    | tup h1 h2 => exact .tup h1 (NAll.up ks _ h2)
theorem NAll.up {K : PySem.W.Frag} {H : Hp} : ∀ (ks : List NestedKey) (vs : List V), NAll β K H ks vs → NAll true K H ks vs
  | [], _, h => by
    cases h
    exact .nil
  | k :: ks, _, h => by
    cases h with
    | cons h1 h2 => exact .cons (NIs.up k _ h1) (NAll.up ks _ h2)
end
/-- without bools the things are told by the keys -/
theorem NAll.ints_eq {K : PySem.W.Frag} {H : Hp} : ∀ (ns : List Int) (vs : List V), NAll false K H (ns.map NestedKey.num) vs → vs = ns.map V.int
  | [], _, h => by
    cases h
    rfl
  | n :: ns, _, h => by
    cases h with
    | cons h1 h2 =>
      cases h1 with
      | num => rw [NAll.ints_eq ns _ h2]; rfl
      | bl hb b => exact Bool.noConfusion hb
theorem NAll.ints {K : PySem.W.Frag} {H : Hp} : ∀ ns : List Int, NAll β K H (ns.map NestedKey.num) (ns.map V.int)
  | [] => .nil
  | n :: ns => .cons (.num n) (NAll.ints ns)
theorem NAll.bools {K : PySem.W.Frag} {H : Hp} : ∀ bs : List Bool, NAll true K H (bs.map fun b => NestedKey.num (if b = true then 1 else 0)) (bs.map V.bl)
  | [] => .nil
  | b :: bs => .cons (.bl rfl b) (NAll.bools bs)
section
variable {X : Cx} {pins : List (Addr × Obj)} {σ : L2.St} {H : Hp} {s : Shared}
mutual
theorem nis_is (I : Inv X pins σ H s) : ∀ (k : NestedKey) (x : V) (u : Value), NIs β X.K H k x → RelV x u → NestedIs s.heap k u
  | .none, _, u, h, r => by
    cases h
    cases (show u = Value.none from r)
    exact .none
  | .num _, _, u, h, r => by
    cases h with
    | num =>
      obtain ⟨t, e⟩ := (show ∃ t, u = Value.int _ t from r)
      subst e
      exact .int _ t
    | bl hb b =>
      cases (show u = Value.bool b from r)
      exact .bool rfl
  | .text x, _, u, h, r => by
    cases h
    obtain ⟨t, e⟩ := (show ∃ t, u = Value.str x t from r)
    subst e
    exact .text x t
  | .tup ks, _, u, h, r => by
    cases h with
    | @tup a xs _ h1 h2 =>
      cases (show u = Value.ref a from r)
      obtain ⟨its, rv, ⟨o, e1, e2, n, e3⟩, _⟩ := I.tuple h1
      exact .tup e1 e2 e3 (nall_is I ks xs its h2 rv)
theorem nall_is (I : Inv X pins σ H s) : ∀ (ks : List NestedKey) (xs : List V) (us : List Value), NAll β X.K H ks xs → Vals xs us → NestedAll s.heap ks us
  | [], _, us, h, r => by
    cases h
    cases r
    exact .nil
  | k :: ks, _, us, h, r => by
    cases h with
    | @cons _ v _ vs h1 h2 =>
      cases r with
      | @cons _ u _ us r1 r2 => exact .cons (nis_is I k v u h1 r1) (nall_is I ks vs us h2 r2)
end
end
/-! ### dicts -/
def entN (w : World) (x : NestedKey × Addr × Value) : DictEntry := ⟨x.1.hash w, .ref x.2.1, x.2.2⟩
/-- the object at a is a dict of the entries xs -/
def DNO (w : World) (a : Addr) (xs : List (NestedKey × Addr × Value)) : HO := .ext fun h => ∃ o es ep, h.get? a = some o ∧ o.ExactDict ∧ o.data = .dict es ep ∧ es.toList = xs.map (entN w)
abbrev KN (β : Bool) (K : PySem.W.Frag) (H : Hp) : List (NestedKey × V) → List (NestedKey × Addr × Value) → Prop := Paired fun p q => p.1 = q.1 ∧ (NIs β K H p.1 (.ref q.2.1) ∧ p.1.depth ≤ 8) ∧ RelV p.2 q.2.2
/-- at a stands a dict of these keys and values -/
def IsDN (β : Bool) (K : PySem.W.Frag) (w : World) (H : Hp) (a : Addr) (kvs : List (NestedKey × V)) : Prop := ∃ xs, H a = some (DNO w a xs) ∧ KN β K H kvs xs ∧ kvs.length ≤ sizeLine ∧ (a == sysModules) = false ∧ (xs.map (·.1)).Nodup
/-- .. it may be locked: to be read -/
def RdDN (β : Bool) (K : PySem.W.Frag) (w : World) (H : Hp) (a : Addr) (kvs : List (NestedKey × V)) : Prop := ∃ xs, Rd H a (DNO w a xs) ∧ KN β K H kvs xs ∧ kvs.length ≤ sizeLine ∧ (a == sysModules) = false ∧ (xs.map (·.1)).Nodup
theorem KN.up {K : PySem.W.Frag} {H : Hp} {kvs : List (NestedKey × V)} {xs : List (NestedKey × Addr × Value)} (r : KN β K H kvs xs) : KN true K H kvs xs := Paired.mapP r fun _ _ z => ⟨z.1, ⟨NIs.up _ _ z.2.1.1, z.2.1.2⟩, z.2.2⟩
theorem IsDN.rd {K : PySem.W.Frag} {w : World} {H : Hp} {a : Addr} {kvs : List (NestedKey × V)} : IsDN β K w H a kvs → RdDN true K w H a kvs
  | ⟨xs, h, r, h3⟩ => ⟨xs, .inl h, r.up, h3⟩
theorem IsDN.rdB {K : PySem.W.Frag} {w : World} {H : Hp} {a : Addr} {kvs : List (NestedKey × V)} : IsDN β K w H a kvs → RdDN β K w H a kvs
  | ⟨xs, h, r⟩ => ⟨xs, .inl h, r⟩
theorem RdDN.up {K : PySem.W.Frag} {w : World} {H : Hp} {a : Addr} {kvs : List (NestedKey × V)} : RdDN β K w H a kvs → RdDN true K w H a kvs
  | ⟨xs, h, r, h3⟩ => ⟨xs, h, r.up, h3⟩
theorem RdDN.ex {K : PySem.W.Frag} {w : World} {H H' : Hp} {a : Addr} {kvs : List (NestedKey × V)} (e : Ex H H') (h : RdDN β K w H a kvs) (k : ∀ ks xs, KN β K H ks xs → KN β K H' ks xs) : RdDN β K w H' a kvs := by
  obtain ⟨xs, h1, h2, h3⟩ := h
  refine ⟨xs, ?_, k _ _ h2, h3⟩
  rcases h1 with h1 | ⟨o, h1⟩
  · exact .inl (e _ _ h1)
  · exact .inr ⟨o, e _ _ h1⟩
theorem KN.val {K : PySem.W.Frag} {H : Hp} {kvs : List (NestedKey × V)} {xs : List (NestedKey × Addr × Value)} (r : KN β K H kvs xs) (k : NestedKey) : RelO (valV kvs k) ((atKey xs k).map (·.2)) := by
  induction r with
  | nil => exact True.intro
  | @cons p q ps qs h t ih =>
    obtain ⟨h1, _, h2⟩ := h
    by_cases e : p.1 = k
    · have e' : q.1 = k := h1.symm.trans e
      have b : atKey (q :: qs) k = some q.2 := by simp [atKey, List.find?_cons, e']
      rw [valV_pos e, b]
      exact h2
    · have e' : ¬ q.1 = k := fun z => e (h1.trans z)
      have b : atKey (q :: qs) k = atKey qs k := by simp [atKey, List.find?_cons, e']
      rw [valV_neg e, b]
      exact ih
theorem KN.repl {K : PySem.W.Frag} {H : Hp} {kvs : List (NestedKey × V)} {xs : List (NestedKey × Addr × Value)} (r : KN β K H kvs xs) (k : NestedKey) {y : V} {u : Value} (ry : RelV y u) : KN β K H (kvs.map fun kv => if kv.1 = k then (kv.1, y) else kv) (xs.map (putAt k u)) := by
  induction r with
  | nil => exact .nil
  | @cons p q ps qs h t ih =>
    rw [List.map_cons, List.map_cons]
    refine .cons ?_ ih
    obtain ⟨h1, h2, h3⟩ := h
    unfold putAt
    by_cases e : p.1 = k
    · rw [if_pos e, if_pos (h1.symm.trans e)]
      exact ⟨h1, h2, ry⟩
    · rw [if_neg e, if_neg (fun z => e (h1.trans z))]
      exact ⟨h1, h2, h3⟩
theorem KN.put {K : PySem.W.Frag} {H : Hp} {kvs : List (NestedKey × V)} {xs : List (NestedKey × Addr × Value)} (r : KN β K H kvs xs) (k : NestedKey) {b : Addr} {y : V} {u : Value} (hb : NIs β K H k (.ref b) ∧ k.depth ≤ 8) (ry : RelV y u) : KN β K H (putK kvs k y) (storedH xs k b u) := by
  have e : (kvs.any fun kv => decide (kv.1 = k)) = (atKey xs k).isSome := by
    rw [valV_any, (r.val k).isSome_eq, Option.isSome_map]
  unfold putK storedH
  rw [e]
  by_cases q : (atKey xs k).isSome = true
  · rw [if_pos q, if_pos q]
    exact r.repl k ry
  · rw [if_neg q, if_neg q]
    exact Paired.snoc r ⟨rfl, hb, ry⟩
theorem KN.map {K : PySem.W.Frag} {H H' : Hp} {kvs : List (NestedKey × V)} {xs : List (NestedKey × Addr × Value)} (e : ∀ a ys, SqT K H a ys → SqT K H' a ys) (r : KN β K H kvs xs) : KN β K H' kvs xs :=
  Paired.mapP r fun _ _ z => ⟨z.1, ⟨NIs.map e _ _ z.2.1.1, z.2.1.2⟩, z.2.2⟩
theorem KN.keys {K : PySem.W.Frag} {H : Hp} {kvs : List (NestedKey × V)} {xs : List (NestedKey × Addr × Value)} (r : KN β K H kvs xs) : kvs.map (·.1) = xs.map (·.1) := by
  induction r with
  | nil => rfl
  | cons h t ih => rw [List.map_cons, List.map_cons, ih, h.1]
theorem IsDN.keep {K : PySem.W.Frag} {w : World} {H H' : Hp} {a j : Addr} {kvs : List (NestedKey × V)} (e : Exj j H H') (n : NTup H j) (ha : a ≠ j) : IsDN β K w H a kvs → IsDN β K w H' a kvs
  | ⟨xs, h1, h2, h3⟩ => ⟨xs, e _ _ ha h1, h2.map fun _ _ => sqT_keep e n, h3⟩
theorem IsDN.ex {K : PySem.W.Frag} {w : World} {H H' : Hp} {a : Addr} {kvs : List (NestedKey × V)} (e : Ex H H') : IsDN β K w H a kvs → IsDN β K w H' a kvs
  | ⟨xs, h1, h2, h3⟩ => ⟨xs, e _ _ h1, h2.map fun _ _ => sqT_exN e, h3⟩
theorem IsDN.ntup {K : PySem.W.Frag} {w : World} {H : Hp} {a : Addr} {kvs : List (NestedKey × V)} : IsDN β K w H a kvs → NTup H a
  | ⟨xs, h1, _⟩ => fun o e => by
    rw [h1] at e
    cases e
    exact ⟨(fun _ z => nomatch z), (fun _ _ z => nomatch z)⟩
theorem IsDN.there {K : PySem.W.Frag} {w : World} {H : Hp} {a : Addr} {kvs : List (NestedKey × V)} : IsDN β K w H a kvs → ∃ o, H a = some o
  | ⟨_, h, _⟩ => ⟨_, h⟩
theorem IsDN.ne_lst {K : PySem.W.Frag} {w : World} {H : Hp} {a l : Addr} {kvs : List (NestedKey × V)} {xs : List V} (d : IsDN β K w H a kvs) (h : H l = some (.lst xs)) : l ≠ a := fun z => by
  obtain ⟨ys, e, _⟩ := d
  rw [← z, h] at e
  cases e
theorem IsDN.ne_tup {K : PySem.W.Frag} {w : World} {H : Hp} {a l : Addr} {kvs : List (NestedKey × V)} {xs : List V} (d : IsDN β K w H a kvs) (h : H l = some (.tup xs)) : l ≠ a := fun z => by
  obtain ⟨ys, e, _⟩ := d
  rw [← z, h] at e
  cases e
theorem IsDN.nodup {K : PySem.W.Frag} {w : World} {H : Hp} {a : Addr} {kvs : List (NestedKey × V)} : IsDN β K w H a kvs → (kvs.map (·.1)).Nodup
  | ⟨_, _, r, _, _, n⟩ => by
    rw [KN.keys r]
    exact n
section
variable {X : Cx} {pins : List (Addr × Obj)} {σ : L2.St} {H : Hp} {s : Shared} {a b : Addr} {kvs : List (NestedKey × V)} {k : NestedKey} {v : V} {r : Value} {A : Around} {E : Value → Shared → Prop}
theorem dn_at (I : Inv X pins σ H s) (d : RdDN β X.K X.w H a kvs) : kvs.length ≤ sizeLine ∧ (a == sysModules) = false ∧ ∃ xs, Rd H a (DNO X.w a xs) ∧ KN β X.K H kvs xs ∧ s.heap.DictOfH (nestedKind X.prog X.w) a xs := by
  obtain ⟨xs, h1, h2, h3, h4, h5⟩ := d
  obtain ⟨⟨o, es, ep, e1, e2, e3, e4⟩, _⟩ := (show ObjOk X.prog X.w H s.heap a (DNO X.w a xs) from h1.ok I.hok)
  refine ⟨h3, h4, xs, h1, h2, o, es, ep, e1, e2, e3, e4, fun x hx => ?_, h5⟩
  have all : ∀ {l : List (NestedKey × V)} {m : List (NestedKey × Addr × Value)}, KN β X.K H l m → ∀ x ∈ m, (nestedKind X.prog X.w).is s.heap x.1 x.2.1 := by
    intro l m q
    induction q with
    | nil => intro x hx; exact nomatch hx
    | @cons p q ps qs hq t ih =>
      intro x hx
      rcases List.mem_cons.mp hx with e | hx
      · subst e
        refine ⟨nis_is I _ (.ref x.2.1) _ (by rw [← hq.1]; exact hq.2.1.1) rfl, ?_⟩
        rw [← hq.1]
        exact hq.2.1.2
      · exact ih x hx
  exact all h2 x hx
theorem dn_key (I : Inv X pins σ H s) (h : NIs β X.K H k (.ref b)) (hd : k.depth ≤ 8) : (nestedKind X.prog X.w).is s.heap k b := ⟨nis_is I _ (.ref b) _ h rfl, hd⟩
theorem dn_obj {P : Program} {w : World} {H : Hp} {h : Heap} {xs : List (NestedKey × Addr × Value)} (d : h.DictOfH (nestedKind P w) a xs) : ObjOk P w H h a (DNO w a xs) := by
  obtain ⟨o, es, ep, e1, e2, e3, e4, _⟩ := d
  refine ⟨⟨o, es, ep, e1, e2, e3, e4⟩, ⟨o, e1⟩, ?_⟩
  rintro h1 h2 ⟨o, es, ep, e1, e2, e3, e4⟩ st
  exact ⟨o, es, ep, st _ e1, e2, e3, e4⟩
/-- d[k], there -/
theorem n_getItem {Q : Value → Shared → Prop} (hu : A.units + 9 < cLine) (I : Inv X pins σ H s) (d : RdDN β X.K X.w H a kvs) (hk : NIs β X.K H k (.ref b)) (hd : k.depth ≤ 8) (l : valV kvs k = some v) (h : ∀ w' s', Inv X pins σ H s' → RelV v w' → Q w' s') :
    wpAny (model X.prog X.w) A (getItem (.ref a) (.ref b)) Q E s := by
  obtain ⟨z, hs, xs, _, rel, dd⟩ := dn_at I d
  obtain ⟨w', hw, rw'⟩ := RelO.some_of (v := v) (o := (atKey xs k).map (·.2)) (by rw [← l]; exact rel.val k)
  obtain ⟨p, hp, hp2⟩ := Option.map_eq_some_iff.mp hw
  refine wpAny_getItem_heap (show A.in1.units + 8 < cLine by show A.units + 1 + 8 < cLine; omega) (dn_key I hk hd) dd hp ?_
  rw [hp2]
  exact h w' _ (I.tok _) rw'
theorem n_in {Q : Value → Shared → Prop} (hu : A.units + 9 < cLine) (I : Inv X pins σ H s) (d : RdDN β X.K X.w H a kvs) (hk : NIs β X.K H k (.ref b)) (hd : k.depth ≤ 8) (h : ∀ s', Inv X pins σ H s' → Q (.bool (valV kvs k).isSome) s') :
    wpAny (model X.prog X.w) A (compareOp .In (.ref b) (.ref a)) Q E s := by
  obtain ⟨z, hs, xs, _, rel, dd⟩ := dn_at I d
  refine wpAny_in_heap (show A.in1.units + 8 < cLine by show A.units + 1 + 8 < cLine; omega) (dn_key I hk hd) hs dd ?_
  have q := (rel.val k).isSome_eq
  rw [Option.isSome_map] at q
  rw [← q]
  exact h _ (I.tok _)
theorem n_notIn {Q : Value → Shared → Prop} (hu : A.units + 9 < cLine) (I : Inv X pins σ H s) (d : RdDN β X.K X.w H a kvs) (hk : NIs β X.K H k (.ref b)) (hd : k.depth ≤ 8) (h : ∀ s', Inv X pins σ H s' → Q (.bool (!(valV kvs k).isSome)) s') :
    wpAny (model X.prog X.w) A (compareOp .NotIn (.ref b) (.ref a)) Q E s := by
  obtain ⟨z, hs, xs, _, rel, dd⟩ := dn_at I d
  refine wpAny_notIn_heap (show A.in1.units + 8 < cLine by show A.units + 1 + 8 < cLine; omega) (dn_key I hk hd) hs dd ?_
  have q := (rel.val k).isSome_eq
  rw [Option.isSome_map] at q
  rw [← q]
  exact h _ (I.tok _)
/-- d.get(k, x) -/
theorem n_getOr {x : V} {u : Value} {Q : Value → Shared → Prop} (hu : A.units + 9 < cLine) (I : Inv X pins σ H s) (d : RdDN β X.K X.w H a kvs) (hk : NIs β X.K H k (.ref b)) (hd : k.depth ≤ 8) (rx : RelV x u) (h : ∀ w' s', Inv X pins σ H s' → RelV ((valV kvs k).getD x) w' → Q w' s') :
    wpAny (model X.prog X.w) A (call (.builtin "dict.get") [.ref a, .ref b, u]) Q E s := by
  obtain ⟨z, hs, xs, _, rel, dd⟩ := dn_at I d
  have e : valueAt (pairsH xs) k = (atKey xs k).map (·.2) := valueAt_pairsH xs k
  refine getOr_keyed (kvs := pairsH xs) (show A.in1.units + 8 < cLine by show A.units + 1 + 8 < cLine; omega) (dn_key I hk hd) hs ⟨xs, dd, rfl⟩ ?_
  rw [e]
  exact h _ _ (I.tok _) ((rel.val k).getD rx)
/-- d[k] = v -/
theorem n_setItem {Q : Unit → Shared → Prop} (hu : A.units + 9 < cLine) (I : Inv X pins σ H s) (d : IsDN β X.K X.w H a kvs) (hk : NIs β X.K H k (.ref b)) (hd : k.depth ≤ 8) (rv : RelV v r) (hl : kvs.length < sizeLine)
    (h : ∀ H' s', Inv X pins σ H' s' → Exj a H H' → IsDN β X.K X.w H' a (putK kvs k v) → Q () s') : wpAny (model X.prog X.w) A (setItem (.ref a) (.ref b) r) Q E s := by
  obtain ⟨z, hs, xs, rea, rel, dd⟩ := dn_at I d.rdB
  have ea : Mut (H a) := by
    obtain ⟨_, e, _⟩ := d
    rw [e]
    exact True.intro
  have hz : xs.length ≤ sizeLine := by rw [← Paired.length rel]; exact z
  have hl' : (putK kvs k v).length ≤ sizeLine := by have := length_putK kvs k v; omega
  refine wpAny_setItem_heap (hsz := hz) (show A.in1.units + 8 < cLine by show A.units + 1 + 8 < cLine; omega) (dn_key I hk hd) dd fun h' dd' hs' => ?_
  have hq : ∃ q, h'.get? a = some q := let ⟨q, _, _, hq, _⟩ := dd'; ⟨q, hq⟩
  have ex : Exj a H (L2.upd H a (DNO X.w a (storedH xs k b r))) := (Exj.refl _ _).upd
  have nt := d.ntup
  refine h _ _ (d_write I ea hs' hq (dn_obj dd')) ex ⟨_, upd_same, (rel.put k ⟨hk, hd⟩ rv).map fun _ _ => sqT_keep ex nt, hl', hs, ?_⟩
  obtain ⟨_, _, _, _, _, _, _, _, n⟩ := dd'
  exact n
end
/-! ### readings and rules -/
def tNGet (K : PySem.W.Frag) (w : World) (td ty : TE) : TE := fun σ H Q => td σ H fun x H1 => ty σ H1 fun y H2 => ∃ a b kvs k v, x = .ref a ∧ y = .ref b ∧ RdDN true K w H2 a kvs ∧ NIs true K H2 k (.ref b) ∧ k.depth ≤ 8 ∧ valV kvs k = some v ∧ Q v H2
def tNIn (K : PySem.W.Frag) (w : World) (ty td : TE) : TE := fun σ H Q => ty σ H fun y H1 => td σ H1 fun x H2 => ∃ a b kvs k, x = .ref a ∧ y = .ref b ∧ RdDN true K w H2 a kvs ∧ NIs true K H2 k (.ref b) ∧ k.depth ≤ 8 ∧ Q (.bl (valV kvs k).isSome) H2
def tNNotIn (K : PySem.W.Frag) (w : World) (ty td : TE) : TE := fun σ H Q => ty σ H fun y H1 => td σ H1 fun x H2 => ∃ a b kvs k, x = .ref a ∧ y = .ref b ∧ RdDN true K w H2 a kvs ∧ NIs true K H2 k (.ref b) ∧ k.depth ≤ 8 ∧ Q (.bl (!(valV kvs k).isSome)) H2
def sNPut (K : PySem.W.Frag) (w : World) (td ty tv : TE) : TS := fun D σ H => tv σ H fun v H1 => td σ H1 fun x H2 => ty σ H2 fun y H3 => ∃ a b kvs k β, x = .ref a ∧ y = .ref b ∧ IsDN β K w H3 a kvs ∧ NIs β K H3 k (.ref b) ∧ k.depth ≤ 8 ∧ kvs.length < sizeLine ∧
  ∀ H4, Exj a H3 H4 → IsDN β K w H4 a (putK kvs k v) → D.nx σ H4
def tNNew (K : PySem.W.Frag) (w : World) : TE := fun _ H Q => ∀ p H', H p = none → Ex H H' → (∀ β, IsDN β K w H' p []) → Q (.ref p) H'
section
variable {X : Cx} {o i e value : Expr} {pos pos' tpos : Pos} {td ty tv : TE}
theorem RdDN.typeIs {pins : List (Addr × Obj)} {σ : L2.St} {H : Hp} {s : Shared} {a : Addr} {kvs : List (NestedKey × V)} (I : Inv X pins σ H s) (d : RdDN β X.K X.w H a kvs) : s.TypeIs (.ref a) "dict" := by
  obtain ⟨_, _, xs, _, _, dd⟩ := dn_at I d
  exact dd.typeIs
theorem pe_nget (hu : X.A.units + 64 < cLine) (ho : PE X o td) (hi : PE X i ty) (hs : NoSl i) : PE X (.Subscript o i pos) (tNGet X.K X.w td ty) := by
  refine ⟨fun pins s σ H Q I h => ?_⟩
  refine subD_of PySem.F.slot_dict_getitem.lookup hs (thn (ho.run pins s σ H _ I h) fun u s1 ⟨x, H1, I1, rx, q1⟩ => thn (hi.run pins s1 σ H1 _ I1 q1) fun iv s2 ⟨y, H2, I2, ry, a, b, kvs, k, v, ex, ey, d, hk, hd, l, q2⟩ => ?_)
  subst ex ey
  obtain rfl : u = Value.ref a := rx
  obtain rfl : iv = Value.ref b := ry
  exact ⟨d.typeIs I2, n_getItem (by omega) I2 d hk hd l fun w' s3 I3 rw' => ⟨v, H2, I3, rw', q2⟩⟩
theorem pc_nin (hu : X.A.units + 64 < cLine) (hi : PE X i ty) (ho : PE X o td) : PC X .In i o (tNIn X.K X.w ty td) := by
  refine ⟨fun pins s σ H Q I h => ?_⟩
  refine thn (hi.run pins s σ H _ I h) fun iv s1 ⟨y, H1, I1, ry, q1⟩ => thn (ho.run pins s1 σ H1 _ I1 q1) fun u s2 ⟨x, H2, I2, rx, a, b, kvs, k, ex, ey, d, hk, hd, q2⟩ => ?_
  subst ex ey
  obtain rfl : u = Value.ref a := rx
  obtain rfl : iv = Value.ref b := ry
  exact n_in (by omega) I2 d hk hd fun s3 I3 => ⟨.bl _, H2, I3, rfl, q2⟩
theorem pc_nnotin (hu : X.A.units + 64 < cLine) (hi : PE X i ty) (ho : PE X o td) : PC X .NotIn i o (tNNotIn X.K X.w ty td) := by
  refine ⟨fun pins s σ H Q I h => ?_⟩
  refine thn (hi.run pins s σ H _ I h) fun iv s1 ⟨y, H1, I1, ry, q1⟩ => thn (ho.run pins s1 σ H1 _ I1 q1) fun u s2 ⟨x, H2, I2, rx, a, b, kvs, k, ex, ey, d, hk, hd, q2⟩ => ?_
  subst ex ey
  obtain rfl : u = Value.ref a := rx
  obtain rfl : iv = Value.ref b := ry
  exact n_notIn (by omega) I2 d hk hd fun s3 I3 => ⟨.bl _, H2, I3, rfl, q2⟩
theorem ps_nput (hu : X.A.units + 64 < cLine) (ho : PE X o td) (hi : PE X i ty) (hv : PE X value tv) (hs : swapsWith value (some (.Subscript o i pos')) pos.line X.env = pure false) :
    PS X (.Assign [.Subscript o i pos'] value pos) (sNPut X.K X.w td ty tv) := by
  refine ⟨fun pins s σ H D I h => ?_⟩
  refine wpAny_Assign_Subscript (thn (hv.run pins s σ H _ I h) fun r s1 ⟨v, H1, I1, rv, q1⟩ => thn (ho.run pins s1 σ H1 _ I1 q1) fun u s2 ⟨x, H2, I2, rx, q2⟩ => thn (hi.run pins s2 σ H2 _ I2 q2) fun iv s3 ⟨y, H3, I3, ry, a, b, kvs, k, β, ex, ey, d, hk, hd, hl, q3⟩ => ?_) hs
  subst ex ey
  obtain rfl : u = Value.ref a := rx
  obtain rfl : iv = Value.ref b := ry
  exact n_setItem (by omega) I3 d hk hd rv hl fun H4 s4 I4 e4 d4 => ⟨σ, H4, I4, q3 H4 e4 d4⟩
theorem pe_nnew : PE X (.Dict [] [] pos) (tNNew X.K X.w) := by
  refine ⟨fun pins s σ H Q I h => ?_⟩
  have hp := I.hok.fresh (Nat.le_refl s.heap.objs.size)
  have hb : ((s.heap.objs.size : Addr) == sysModules) = false := beq_eq_false_iff_ne.mpr (Ne.symm (Nat.ne_of_lt I.big))
  have dd : (s.heap.push { cls := .type "dict", data := .dict #[] }).DictOfH (nestedKind X.prog X.w) s.heap.objs.size [] := Heap.DictOfH.new s.heap
  have I1 := I.laid (a := s.heap.objs.size) (o := DNO X.w s.heap.objs.size []) (t' := s.toks) (fun _ _ q => Heap.get?_push_of_some _ q) (Nat.le_refl _) (dn_obj dd)
  exact wpAny_Dict_empty ⟨.ref s.heap.objs.size, _, I1, rfl, h _ _ hp (Evl.Ex.new hp) fun β => ⟨[], upd_same, .nil, Nat.zero_le _, hb, List.nodup_nil⟩⟩
def tNGet2 (K : PySem.W.Frag) (w : World) (td ty tx : TE) : TE := fun σ H Q => td σ H fun x H1 => ∃ a, x = .ref a ∧ (∃ kvs, RdDN true K w H1 a kvs) ∧ ty σ H1 fun y H2 => tx σ H2 fun z H3 => ∃ kvs k b, y = .ref b ∧ RdDN true K w H3 a kvs ∧ NIs true K H3 k (.ref b) ∧ k.depth ≤ 8 ∧ Q ((valV kvs k).getD z) H3
/-- d.get(k, x) -/
theorem pe_nget2 {f : Expr} {tx : TE} {apos cpos : Pos} (hu : X.A.units + 64 < cLine) (ho : PE X o td) (he : PE X e ty) (hf : PE X f tx) (m : M2 X o "get" apos e f cpos) : PE X (.Call (.Attribute o "get" apos) [e, f] [] cpos) (tNGet2 X.K X.w td ty tx) := by
  refine ⟨fun pins s σ H Q I h => ?_⟩
  refine wpAny_Call_method m.base m.few m.line PySem.F.plainAttrs_dict PySem.F.slot_dict_get PySem.F.type_dict_get (thn (ho.run pins s σ H _ I h) fun u s1 ⟨x, H1, I1, rx, a, ex, ⟨kvs0, d0⟩, q1⟩ => ?_)
  subst ex
  obtain rfl : u = Value.ref a := rx
  refine ⟨d0.typeIs I1, fun b q => ?_, ?_⟩
  · cases q
    obtain ⟨_, _, _, _, _, ob, _, _, h1, h2, _⟩ := dn_at I1 d0
    exact ⟨ob, h1, h2.2.1⟩
  rw [m.trees]
  refine Calls.callWith_builtin rfl (Calls.evalArgs_plain (Calls.spliced_cons (thn (he.run pins s1 σ H1 _ I1 q1) fun iv s2 ⟨y, H2, I2, ry, q2⟩ =>
    Calls.spliced_cons (thn (hf.run pins s2 σ H2 _ I2 q2) fun fv s3 ⟨z, H3, I3, rz, q3⟩ => Calls.spliced_nil ?_))))
  obtain ⟨kvs, k, b, ey, d, hk, hd, q3⟩ := q3
  subst ey
  obtain rfl : iv = Value.ref b := ry
  exact n_getOr (by omega) I3 d hk hd rz fun w' s4 I4 rw' => ⟨_, H3, I4, rw', q3⟩
def rLenN (K : PySem.W.Frag) (w : World) : List V → Hp → VK → Prop := fun xs H Q => ∃ (p : Addr) (kvs : List (NestedKey × V)), xs = [.ref p] ∧ RdDN true K w H p kvs ∧ Q (.int ((kvs.length : Nat) : Int)) H
theorem call_lenN : CallR X (.builtin "len") (rLenN X.K X.w) := by
  intro pins s σ H xs us Q I r h
  obtain ⟨p, kvs, rfl, hp, q⟩ := h
  obtain ⟨u, rfl, rx⟩ := vals1 r
  obtain rfl : u = .ref p := rx
  obtain ⟨z, hd, ys, _, rel, dd⟩ := dn_at I hp
  have hl : kvs.length = ys.length := Paired.length rel
  refine call_len_dictH hd dd (by rw [← hl]; rw [sizeLine_eq] at z; omega) ?_
  rw [← hl]
  exact ⟨.int ((kvs.length : Nat) : Int), H, I.tok _, ⟨_, rfl⟩, q⟩
theorem dict_pairsN {prog : Program} {w : World} {A : Around} {E : Value → Shared → Prop} {s : Shared} {env : Env} {keys : List (Option Expr)} {values : List Expr} {pos : Pos} {pairs : List (Sem Value × Sem Value)} {Q : Value → Shared → Prop} (hu : (nestedKind prog w).room A)
    (hshape : (evalEachOpt keys env).zip ((evalEach values env).map fun v => do let x ← v; standAt pos; pure x) = pairs.map fun p => (some p.1, p.2)) (h0 : pairs ≠ []) (hlen : pairs.length ≤ 15)
    (h : wpAny (model prog w) A (evalPairs pairs) (fun vs s₁ => ∃ ps, CarriesH (nestedKind prog w) s₁.heap vs ps ∧ s₁.heap.DictOfH (nestedKind prog w) s.heap.objs.size [] ∧
      ∀ h' tk, h'.DictOfH (nestedKind prog w) s.heap.objs.size (storedAllH [] ps) → Heap.SameBut s.heap.objs.size s₁.heap h' → Q (.ref s.heap.objs.size) { s₁ with heap := h', toks := tk }) E
      { s with heap := s.heap.push { cls := .type "dict", data := .dict #[] } }) :
    wpAny (model prog w) A (eval (.Dict keys values pos) env) Q E s := by
  rw [arm_eval_Dict, hshape, dictDisplay_pairs pairs h0 (by omega)]
  exact wpAny_bind (wpAny_standAt (wpAny_bind (wpAny_subDictH (knd := nestedKind prog w) (Q := fun d s' => wpAny (model prog w) A (pure (Value.ref d)) Q E s') hu hlen
    (wpAny_mono h (fun vs s₁ h₁ => by obtain ⟨ps, hc, hm, hq⟩ := h₁; exact ⟨ps, hc, hm, fun h' tk a b => wpAny_pure (hq h' tk a b)⟩) fun _ _ e => e))))
/-- {k: v} -/
def tNDisp1 (K : PySem.W.Frag) (w : World) (tk tv : TE) : TE := fun σ H Q => ∀ p H1, H p = none → Ex H H1 → H1 p = some (DNO w p []) → tk σ H1 fun x H2 => tv σ H2 fun y H3 => H3 p = some (DNO w p []) ∧ ∃ k b β, x = .ref b ∧ NIs β K H3 k (.ref b) ∧ k.depth ≤ 8 ∧ ∀ H4, Exj p H3 H4 → IsDN β K w H4 p [(k, y)] → Q (.ref p) H4
theorem pe_ndisp1 {k v : Expr} {tk tv : TE} (hu : X.A.units + 64 < cLine) (hk : PE X k tk) (hv : PE X v tv) : PE X (.Dict [some k] [v] pos) (tNDisp1 X.K X.w tk tv) := by
  refine ⟨fun pins s σ H Q I q => ?_⟩
  have hn := I.hok.fresh (Nat.le_refl s.heap.objs.size)
  have hb : ((s.heap.objs.size : Addr) == sysModules) = false := beq_eq_false_iff_ne.mpr (Ne.symm (Nat.ne_of_lt I.big))
  have dd0 : (s.heap.push { cls := .type "dict", data := .dict #[] }).DictOfH (nestedKind X.prog X.w) s.heap.objs.size [] := Heap.DictOfH.new s.heap
  have I1 := I.laid (a := s.heap.objs.size) (o := DNO X.w s.heap.objs.size []) (t' := s.toks) (fun _ _ q => Heap.get?_push_of_some _ q) (Nat.le_refl _) (dn_obj dd0)
  refine dict_pairsN (pairs := pairTrees [some k] [v] X.env pos) (show X.A.units + 8 < cLine by omega) (zip_pairTrees [some k] [v] X.env pos rfl rfl) (fun z => nomatch z) (show 1 ≤ 15 by decide) ?_
  refine pairTrees_cons_walk (thn (hk.run pins _ σ _ _ I1 (q _ _ hn (Evl.Ex.new hn) upd_same)) fun u s1 ⟨x, H2, I2, rx, q1⟩ => thn (hv.run pins s1 σ H2 _ I2 q1) fun r s2 ⟨y, H3, I3, ry, e, kk, b, β, ex, hkk, hd, q2⟩ => ?_)
  subst ex
  obtain rfl : u = Value.ref b := rx
  refine pairTrees_nil_walk ?_
  have d0 : IsDN β X.K X.w H3 s.heap.objs.size [] := ⟨[], e, .nil, Nat.zero_le _, hb, List.nodup_nil⟩
  obtain ⟨_, _, xs, ea, rel, dd⟩ := dn_at I3 d0.rdB
  cases rel
  refine ⟨[(kk, b, r)], ⟨rfl, rfl, dn_key I3 hkk hd, trivial⟩, dd, fun h' tk dd' hs => ?_⟩
  have dd' : h'.DictOfH (nestedKind X.prog X.w) s.heap.objs.size [(kk, b, r)] := dd'
  have hq : ∃ q, h'.get? s.heap.objs.size = some q := let ⟨q, _, _, hq, _⟩ := dd'; ⟨q, hq⟩
  have exj : Exj s.heap.objs.size H3 (L2.upd H3 s.heap.objs.size (DNO X.w s.heap.objs.size [(kk, b, r)])) := (Exj.refl _ _).upd
  have I4 := d_write (t' := tk) I3 (by rw [e]; exact True.intro) hs hq (dn_obj dd')
  exact ⟨.ref s.heap.objs.size, _, I4, rfl, q2 _ exj ⟨_, upd_same, .cons ⟨rfl, ⟨NIs.keep exj d0.ntup hkk, hd⟩, ry⟩ .nil, by show 1 ≤ sizeLine; decide, hb, by simp⟩⟩
end
/-! ### walked by its keys -/
section
variable {P : Program} {w : World} {K : PySem.W.Frag} {tg : Expr} {X : Cx} {pins : List (Addr × Obj)} {σ : L2.St} {H : Hp} {s : Shared} {d : Addr} {o : Obj} {xs : List (NestedKey × Addr × Value)} {es : Array DictEntry} {ep : Nat}
theorem frzN (I : Inv X pins σ H s) (h : H d = some (.frz o (DNO X.w d xs))) : s.heap.get? d = some o ∧ o.ExactDict ∧ ∃ (es : Array DictEntry) (ep : Nat), o.data = .dict es ep ∧ es.size = xs.length ∧ ∀ (i : Nat) q, xs[i]? = some q → es[i]? = some (entN X.w q) := by
  obtain ⟨hd, ⟨o', es, ep, ho, hx, hdt, he⟩, _⟩ := I.hok d _ h
  rw [hd] at ho
  cases ho
  refine ⟨hd, hx, es, ep, hdt, ?_, fun i q e => ?_⟩
  · have := congrArg List.length he
    simpa using this
  · have : es.toList[i]? = some (entN X.w q) := by rw [he, List.getElem?_map, e]; rfl
    simpa using this
def Itkn (w : World) (d : Addr) (o : Obj) (xs : List (NestedKey × Addr × Value)) : It :=
  ⟨fun i H => H d = some (.frz o (DNO w d xs)) ∧ i < xs.length, fun i H x H' => H' = H ∧ ∃ q, xs[i]? = some q ∧ x = .ref q.2.1, fun i H => H d = some (.frz o (DNO w d xs)) ∧ xs.length ≤ i⟩
theorem turn_keysN (it : Addr) (hod : o.data = .dict es ep) : Turn P w K tg (Itkn w d o xs) [it] it (fun i h => h.IsKeyIter it d i xs.length ep) where
  mem := by simp
  obj := fun i h st b hb => by
    have e : b = it := by simpa using hb
    subst e
    obtain ⟨oi, e, c, dd⟩ := st
    exact ⟨oi, e, fun v z => by rw [dd] at z; cases z⟩
  keep := fun i h h' st k => st.at fun oi e => k it (by simp) oi e
  item := by
    intro X hP hw hK hc i pins s σ H E I hf st hg
    subst hP hw hK
    obtain ⟨hd, hi⟩ := hg
    obtain ⟨f0, f1, f2, f3, f4, f5⟩ := hf it (by simp)
    obtain ⟨hgd, hx, es', ep', hdt, hsz, ent⟩ := frzN I hd
    obtain ⟨rfl, rfl⟩ := dict_ep hod hdt
    obtain ⟨q, hq⟩ : ∃ p, xs[i]? = some p := ⟨xs[i], List.getElem?_eq_getElem hi⟩
    refine next_key_item st hgd hdt hsz (ent i q hq) fun h' st' sb => ?_
    have I1 : Inv X pins σ H { s with heap := h' } := I.turned (t' := s.toks) (fun b ob hb e => (sb.2 b hb).trans e) f0 f1 f3 f4 f5
    obtain ⟨oi, e, c, dd⟩ := id st'
    exact ⟨.ref q.2.1, rfl, go_of (s := { s with heap := h' }) e c dd (by decide) ⟨.ref q.2.1, H, I1, rfl, ⟨rfl, q, hq, rfl⟩, st', fun b hb => (hf b hb).1⟩⟩
  done := by
    intro X hP hw hK hc i pins s σ H E I hf st hg
    subst hP hw hK
    obtain ⟨hd, hi⟩ := hg
    obtain ⟨f0, f1, f2, f3, f4, f5⟩ := hf it (by simp)
    obtain ⟨hgd, hx, es', ep', hdt, hsz, ent⟩ := frzN I hd
    obtain ⟨rfl, rfl⟩ := dict_ep hod hdt
    exact next_key_end (I.ok.hd hc) st hgd hdt hsz hi fun h' eb => ⟨rfl, I.turned (t' := s.toks) (fun b ob hb e => eb b ob hb e) f0 f1 f3 f4 f5⟩
  self := fun A i s Q E st h => by
    refine wpAny_pyIter_slot st.typeIs F.slot_dict_keyiterator_iter (wpAny_call_entry F.slot_dict_keyiterator_iter st.typeIs F.entry_dict_keyiterator_iter ?_ (F.args_dict_keyiterator_iter_1 _))
    show wpAny _ _ (ret (.ref it)) _ _ s
    exact wpAny_pure ⟨_, rfl, "dict_keyiterator", _, st.typeIs, F.slot_dict_keyiterator_next.lookup, h⟩
def iKeysN (w : World) (td : TE) : TI := fun σ H R => td σ H fun x H1 => ∃ d o xs, x = .ref d ∧ H1 d = some (.frz o (DNO w d xs)) ∧ (d == sysModules) = false ∧ R (Itkn w d o xs) H1
theorem pi_keysN {e : Expr} {td : TE} (he : PE X e td) : PI X tg e (iKeysN X.w td) := by
  refine ⟨fun pins s σ H R I h => ?_⟩
  refine thn (he.run pins s σ H _ I h) fun u s1 ⟨x, H1, I1, rx, d, o, xs, ex, hd, hs, q⟩ => ?_
  subst ex
  obtain rfl : u = Value.ref d := rx
  obtain ⟨hgd, hx, es, ep, hdt, hsz, ent⟩ := frzN I1 hd
  refine iter_keys hs hgd hx hdt (pi_one (tk := s1.toks) I1 _ (turn_keysN _ hdt) ⟨_, Heap.get?_push_size _ rfl, rfl, ?_⟩ q)
  rw [hsz] <;> rfl
end
/-- the for over the keys of a locked dict -/
theorem for_keysN {w : World} {d : Addr} {o : Obj} {xs : List (NestedKey × Addr × Value)} {g : TG} {tb : TS} {D : Ends} {σ : L2.St} {H : Hp} (Pv : Nat → L2.St → Hp → Prop) (h0 : Pv 0 σ H) (hl : ∀ i σ H, i ≤ xs.length → Pv i σ H → H d = some (.frz o (DNO w d xs)))
    (hs : ∀ i q σ H, xs[i]? = some q → Pv i σ H → g (.ref q.2.1) σ H fun σ2 H2 => tb { D with nx := Pv (i + 1), ct := Pv (i + 1), bk := D.nx } σ2 H2) (hd : ∀ σ H, Pv xs.length σ H → D.nx σ H) :
    ∃ W : Nat → Nat → L2.St → Hp → Prop, (∃ m, W 0 m σ H) ∧ ∀ i m σ H, W i m σ H →
      ((Itkn w d o xs).stop i H ∧ D.nx σ H) ∨ ((Itkn w d o xs).go i H ∧ ∃ N : L2.St → Hp → Prop, (∀ σ' H', N σ' H' → ∃ m', m' < m ∧ W (i + 1) m' σ' H') ∧ ∀ x H', (Itkn w d o xs).yld i H x H' → g x σ H' fun σ2 H2 => tb { D with nx := N, ct := N, bk := D.nx } σ2 H2) := by
  refine ⟨fun i m σ H => m = xs.length - i ∧ i ≤ xs.length ∧ Pv i σ H, ⟨xs.length, by simp, Nat.zero_le _, h0⟩, ?_⟩
  rintro i m σ H ⟨rfl, hi, p⟩
  have q := hl i σ H hi p
  by_cases hlt : i < xs.length
  · refine .inr ⟨⟨q, hlt⟩, Pv (i + 1), fun σ' H' p' => ⟨xs.length - (i + 1), by omega, rfl, hlt, p'⟩, fun x H' y => ?_⟩
    obtain ⟨e, z, hz, rfl⟩ := y
    subst e
    exact hs i z σ _ hz p
  · have e : i = xs.length := by omega
    subst e
    exact .inl ⟨⟨q, Nat.le_refl _⟩, hd σ H p⟩
/-! ### dict(list of pairs) -/
abbrev PairN (β : Bool) (K : PySem.W.Frag) (H : Hp) (p : Addr) (kv : NestedKey × V) : Prop := ∃ b, SqT K H p [.ref b, kv.2] ∧ NIs β K H kv.1 (.ref b) ∧ kv.1.depth ≤ 8
def putAllN (kvs more : List (NestedKey × V)) : List (NestedKey × V) := more.foldl (fun acc kv => putK acc kv.1 kv.2) kvs
theorem putAllN_len : ∀ (more kvs : List (NestedKey × V)), (putAllN kvs more).length ≤ kvs.length + more.length
  | [], kvs => Nat.le_refl _
  | p :: r, kvs => by
    have h1 := putAllN_len r (putK kvs p.1 p.2)
    have h2 := length_putK kvs p.1 p.2
    show (putAllN (putK kvs p.1 p.2) r).length ≤ _
    rw [List.length_cons]
    omega
theorem KN.putAll {K : PySem.W.Frag} {H : Hp} {more : List (NestedKey × V)} {ys : List (NestedKey × Addr × Value)} (r : KN β K H more ys) : ∀ {kvs : List (NestedKey × V)} {xs : List (NestedKey × Addr × Value)}, KN β K H kvs xs → KN β K H (putAllN kvs more) (storedAllH xs ys) := by
  induction r with
  | nil => exact fun q => q
  | @cons p q ps qs h t ih =>
    intro kvs xs r0
    have e : KN β K H (putK kvs p.1 p.2) (storedH xs q.1 q.2.1 q.2.2) := by
      have := r0.put p.1 (b := q.2.1) h.2.1 h.2.2
      rw [← h.1]
      exact this
    exact ih e
section
variable {X : Cx} {pins : List (Addr × Obj)} {σ : L2.St} {H : Hp} {s : Shared}
theorem pairs_ofN (I : Inv X pins σ H s) {ps : List Addr} {kvs : List (NestedKey × V)} (h : Paired (PairN β X.K H) ps kvs) : ∃ xs, KN β X.K H kvs xs ∧ xs.length = ps.length ∧ ∀ (j : Nat) q, xs[j]? = some q → ∃ p, ps[j]? = some p ∧ s.heap.IsTuple p #[.ref q.2.1, q.2.2] := by
  induction h with
  | nil => exact ⟨[], .nil, rfl, fun j q e => by simp at e⟩
  | @cons p kv ps kvs h t ih =>
    obtain ⟨b, h1, h2, h3⟩ := h
    obtain ⟨xs, r, hl, hp⟩ := ih
    obtain ⟨its, rv, ht, _⟩ := I.tuple h1
    obtain ⟨u, y, ei, ru, ry⟩ := vals2 rv
    subst ei
    obtain rfl : u = Value.ref b := ru
    refine ⟨(kv.1, b, y) :: xs, .cons ⟨rfl, ⟨h2, h3⟩, ry⟩ r, by rw [List.length_cons, List.length_cons, hl], fun j q e => ?_⟩
    cases j with
    | zero =>
      obtain rfl : (kv.1, b, y) = q := Option.some.inj e
      obtain ⟨o, e1, e2, n, e3⟩ := ht
      exact ⟨p, rfl, o, e1, e2, n, e3⟩
    | succ j =>
      obtain ⟨b', e1, e2⟩ := hp j q (by simpa using e)
      exact ⟨b', by simpa using e1, e2⟩
end
def rDictN (K : PySem.W.Frag) (w : World) : List V → Hp → VK → Prop := fun xs H Q => ∃ (a : Addr) (ps : List Addr) (kvs : List (NestedKey × V)) (β : Bool), xs = [.ref a] ∧ SqL K H a (ps.map V.ref) ∧ Paired (PairN β K H) ps kvs ∧ ∀ p H', H p = none → Ex H H' → IsDN β K w H' p (putAllN [] kvs) → Q (.ref p) H'
theorem call_dictN {X : Cx} (hcalm : X.calm = true) (hu : X.A.units + 64 < cLine) : CallR X (.type "dict") (rDictN X.K X.w) := by
  intro pins s σ H xs us Q I r q
  obtain ⟨a, ps, kvs, β, ex, hq, hp, q⟩ := q
  subst ex
  obtain ⟨u, eu, rx⟩ := vals1 r
  subst eu
  cases rx
  obtain ⟨its, rv, pl, hz⟩ := I.list hq
  have ei := refs_at rv
  subst ei
  rw [List.length_map] at hz
  obtain ⟨xs, rel, hl, hpr⟩ := pairs_ofN I hp
  obtain ⟨o, n, ho, hc, hd, hdat⟩ := pl
  have P := PairArg.list (prog := X.prog) (w := X.w) a (ps.map Value.ref).toArray (fun j => ps.getD j 0) (xs.map fun q => (Value.ref q.2.1, q.2.2))
  have isk : ∀ x ∈ xs, (nestedKind X.prog X.w).is s.heap x.1 x.2.1 := by
    have all : ∀ {l : List (NestedKey × V)} {m : List (NestedKey × Addr × Value)}, KN β X.K H l m → ∀ x ∈ m, (nestedKind X.prog X.w).is s.heap x.1 x.2.1 := by
      intro l m q
      induction q with
      | nil => intro x hx; exact nomatch hx
      | @cons p q ps qs hq t ih =>
        intro x hx
        rcases List.mem_cons.mp hx with e | hx
        · subst e
          refine ⟨nis_is I _ (.ref x.2.1) _ (by rw [← hq.1]; exact hq.2.1.1) rfl, ?_⟩
          rw [← hq.1]
          exact hq.2.1.2
        · exact ih x hx
    exact all rel
  refine call_dict_pairsH (knd := nestedKind X.prog X.w) (ps := xs) P (I.ok.hd hcalm) (show X.A.units + 1 + 1 + 8 < cLine by omega) ⟨⟨o, n, ho, hc, hd, hdat⟩, by simp [hl], fun j k v e => ?_⟩ ⟨by simp, fun i key v e => ?_⟩ (fun h' hk x hx => nestedKind_stays.stays (fun b ob vs m e _ => hk b ob (Nat.ne_of_lt (Heap.lt_size e)) (fun z => nomatch z) e) (isk x hx)) (by rw [List.length_map, hl]; exact hz) fun h' tk hd' k => ?_
  · rw [List.getElem?_map] at e
    cases e2 : xs[j]? with
    | none =>
      rw [e2] at e
      cases e
    | some q' =>
      rw [e2] at e
      obtain ⟨p, e3, e4⟩ := hpr j q' e2
      have e := Option.some.inj e
      injection e with e5 e6
      subst e5 e6
      have eg : ps.getD j 0 = p := by rw [List.getD_eq_getElem?_getD, e3]; rfl
      refine ⟨by simp [e3], .inl ?_⟩
      show s.heap.IsTuple (ps.getD j 0) _
      rw [eg]
      exact e4
  · have e : (xs.map fun q => (Value.ref q.2.1, q.2.2))[i]? = some (key, v) := e
    rw [List.getElem?_map] at e
    cases e2 : xs[i]? with
    | none =>
      rw [e2] at e
      cases e
    | some q' =>
      rw [e2] at e
      have e := Option.some.inj e
      injection e with e5 e6
      exact ⟨q'.1, q'.2.1, by rw [← e6], e5.symm⟩
  · have hm : (s.heap.objs.size == sysModules) = false := beq_eq_false_iff_ne.mpr (Nat.ne_of_gt I.big)
    have hn := I.hok.fresh (Nat.le_refl s.heap.objs.size)
    have hlen : (putAllN [] kvs).length ≤ sizeLine := by
      refine Nat.le_trans (putAllN_len kvs []) ?_
      rw [List.length_nil, Nat.zero_add, Paired.length rel, hl]
      exact hz
    have ex : Ex H (L2.upd H s.heap.objs.size (DNO X.w s.heap.objs.size (storedAllH [] xs))) := Evl.Ex.new hn
    have nd : ((storedAllH [] xs).map (·.1)).Nodup := by
      obtain ⟨_, _, _, _, _, _, _, _, n⟩ := hd'
      exact n
    exact ⟨.ref s.heap.objs.size, _, I.laid (t' := tk) (fun b ob e => k b ob (fun z => nomatch z) e) (Nat.le_refl _) (dn_obj hd'), rfl, q _ _ hn ex ⟨_, upd_same, (KN.putAll rel .nil).map fun _ _ => sqT_exN ex, hlen, hm, nd⟩⟩
end My
set_option Elab.async false
set_option linter.all false
set_option maxRecDepth 100000
set_option maxHeartbeats 4000000
/-! comprehensions of two clauses -/
namespace My
open PySem PySem.Spec PyProof.Rows L2
/-- the inner clause, of which Nx holds behind -/
def Inn (D : Addr) (g1 : TG) (tt1 : TT) (te : TE) (σ2 : L2.St) (vs1 : List Nat) (J1 : It) (H4 : Hp) (Nx : Hp → Prop) : Prop := ∃ W1 : Nat → Nat → Hp → Prop, (∃ m, W1 0 m H4) ∧ ∀ j k H, W1 j k H →
  (J1.stop j H ∧ Nx H) ∨ (J1.go j H ∧ ∃ Nx1 : Hp → Prop, (∀ H', Nx1 H' → ∃ k', k' < k ∧ W1 (j + 1) k' H') ∧ ∀ x H', J1.yld j H x H' → g1 x (wipe σ2 vs1) H' fun σ3 H5 => wipe σ3 vs1 = wipe σ2 vs1 ∧ tt1 σ3 H5 fun b H6 =>
    if b = true then te σ3 H6 fun y H7 => ∃ acc, H7 D = some (.lst acc) ∧ acc.length < sizeLine ∧ Nx1 (upd H7 D (.lst (acc ++ [y]))) else Nx1 H6)
theorem lc2_in {J1 : It} {n1 : Nat} {G1 : Hp → Prop} {Y1 : Nat → Hp → V → Hp → Prop} (w : Walk J1 n1 G1 Y1) {D : Addr} {g1 : TG} {tt1 : TT} {te : TE} {σ2 : L2.St} {vs1 : List Nat} {H4 : Hp} {Nx : Hp → Prop} (Pv : Nat → Hp → Prop) (h0 : Pv 0 H4) (hG : ∀ i H, i ≤ n1 → Pv i H → G1 H)
    (hs : ∀ i x H H', i < n1 → Pv i H → Y1 i H x H' → g1 x (wipe σ2 vs1) H' fun σ3 H5 => wipe σ3 vs1 = wipe σ2 vs1 ∧ tt1 σ3 H5 fun b H6 =>
      if b = true then te σ3 H6 fun y H7 => ∃ acc, H7 D = some (.lst acc) ∧ acc.length < sizeLine ∧ Pv (i + 1) (upd H7 D (.lst (acc ++ [y]))) else Pv (i + 1) H6) (hd : ∀ H, Pv n1 H → Nx H) : Inn D g1 tt1 te σ2 vs1 J1 H4 Nx := by
  refine ⟨fun i m H => m = n1 - i ∧ i ≤ n1 ∧ Pv i H, ⟨n1, by simp, Nat.zero_le _, h0⟩, ?_⟩
  rintro i m H ⟨rfl, hi, p⟩
  have q := hG i H hi p
  by_cases hlt : i < n1
  · exact .inr ⟨w.goes i H hlt q, Pv (i + 1), fun H' p' => ⟨n1 - (i + 1), by omega, rfl, hlt, p'⟩, fun x H' y => hs i x H H' hlt p (w.yields i H x H' hlt q y)⟩
  · have e : i = n1 := by omega
    subst e
    exact .inl ⟨w.stops H q, hd H p⟩
theorem lc2_out {J : It} {n : Nat} {G : Hp → Prop} {Y : Nat → Hp → V → Hp → Prop} (w : Walk J n G Y) {g : TG} {tt : TT} {wi1 : TI} {g1 : TG} {tt1 : TT} {te : TE} {vs vs1 : List Nat} {σ : L2.St} {H1 : Hp} {D : Addr} {Qd : Hp → Prop} (Pv : Nat → Hp → Prop) (h0 : Pv 0 (upd H1 D (.lst []))) (hG : ∀ i H, i ≤ n → Pv i H → G H)
    (hs : ∀ i x H H', i < n → Pv i H → Y i H x H' → g x (wipe σ vs) H' fun σ2 H2 => wipe σ2 vs = wipe σ vs ∧ tt σ2 H2 fun b H3 =>
      if b = true then wi1 σ2 H3 fun J1 H4 => Inn D g1 tt1 te σ2 vs1 J1 H4 (Pv (i + 1)) else Pv (i + 1) H3) (hd : ∀ H, Pv n H → Qd H) :
    ∃ W : Nat → Nat → Hp → Prop, (∃ m, W 0 m (upd H1 D (.lst []))) ∧ ∀ i m H, W i m H →
      (J.stop i H ∧ Qd H) ∨ (J.go i H ∧ ∃ Nx : Hp → Prop, (∀ H', Nx H' → ∃ m', m' < m ∧ W (i + 1) m' H') ∧ ∀ x H', J.yld i H x H' → g x (wipe σ vs) H' fun σ2 H2 => wipe σ2 vs = wipe σ vs ∧ tt σ2 H2 fun b H3 =>
        if b = true then wi1 σ2 H3 fun J1 H4 => Inn D g1 tt1 te σ2 vs1 J1 H4 Nx else Nx H3) := by
  refine ⟨fun i m H => m = n - i ∧ i ≤ n ∧ Pv i H, ⟨n, by simp, Nat.zero_le _, h0⟩, ?_⟩
  rintro i m H ⟨rfl, hi, p⟩
  have q := hG i H hi p
  by_cases hlt : i < n
  · exact .inr ⟨w.goes i H hlt q, Pv (i + 1), fun H' p' => ⟨n - (i + 1), by omega, rfl, hlt, p'⟩, fun x H' y => hs i x H H' hlt p (w.yields i H x H' hlt q y)⟩
  · have e : i = n := by omega
    subst e
    exact .inl ⟨w.stops H q, hd H p⟩
end My
set_option Elab.async false
set_option linter.all false
set_option maxRecDepth 100000
set_option maxHeartbeats 4000000
/-! xs < ys of alike data (lists, tuples, nested). -/
namespace My
open PySem PySem.Spec PyProof.Rows L2
open PySem.W (alike dataLt)
section
variable {X : Cx}
def rLtD (K : PySem.W.Frag) : R2 := fun x y H Q => ∃ d e, Dp K H x d ∧ Dp K H y e ∧ alike d e = true ∧ d ≠ .none ∧ d.depth ≤ 60 ∧ Q (.bl (dataLt d e)) H
theorem op_ltD (hu : X.A.units + 65 < cLine) : OpR X (compareOp .Lt) (rLtD X.K) := by
  intro pins s σ H x y v u Q I rx ry ⟨d, e, hd, he, ha, hn, hdep, q⟩
  obtain ⟨as, r1⟩ := Dp.reads I d x v hd rx
  obtain ⟨bs, r2⟩ := Dp.reads I e y u he ry
  exact PySem.W.lt_data r1 r2 ha hn (by omega) ⟨.bl _, H, I, rfl, q⟩
end
end My
set_option Elab.async false
set_option linter.all false
set_option maxRecDepth 100000
set_option maxHeartbeats 4000000
/-! sorted(d) of a dict whose keys are nested tuples. -/
namespace My
open PySem PySem.Spec PyProof.Rows L2
open PySem.W (EachIs AllAlike Sortable dataKind sortVals KeyedOut dataLe)
section
variable {prog : Program} {w : World} {A : Around} {E : Value → Shared → Prop} {s : Shared} {d : Addr} {od : Obj} {es : Array DictEntry} {ep : Nat}
theorem extN {R : Result → Shared → Prop} (hh : A.handled = none) (hsys : (d == sysModules) = false) (ho : s.heap.get? d = some od) (hx : od.ExactDict) (hdd : od.data = .dict es ep) (S : Addr) (hSd : d ≠ S) (res : Value) (c₀ : Nat) (hS : s.heap.get? S = some { cls := .type "list", data := .seq #[] c₀ })
    (hR : ∀ h' c, (∀ b o, b ≠ S → s.heap.get? b = some o → h'.get? b = some o) → h'.get? S = some { cls := .type "list", dict := none, data := .seq (es.map (·.key)) c, slots := #[] } → R (.ok (.ret res)) { s with heap := h' }) (hn : es.size ≤ sizeLine) :
    wpAny (model prog w) A.in1 (Builtin.List.listExtendWith (.ref S) (.ref d) res)
      (fun fin s' => match fin with | .done f => R (.ok f) s' | .again c' => c'.quiet = true ∧ codeAny (model prog w) A c' R s') (fun e s' => R (.error e) s') s := by
  have hSI : S < s.heap.objs.size := Heap.lt_size hS
  have hdI : d < s.heap.objs.size := Heap.lt_size ho
  have hT : s.TypeIs (.ref d) "dict" := ⟨od, ho, hx.1⟩
  have key : ∀ (h : Heap) (c₁ : Nat), (∀ b o, b ≠ S → (s.heap.push { cls := .type "dict_keyiterator", data := .fields #[.ref d, .int 0 0, .int es.size 0, .int ep 0] }).get? b = some o → h.get? b = some o) →
      h.get? S = some { cls := .type "list", data := .seq #[] c₁ } → codeAny (model prog w) A (.builtin "list.extend.loop" ⟨[.ref S, .ref s.heap.objs.size, res], []⟩) R { s with heap := h } := by
    intro h c₁ hk' hS₁
    have hI := hk' s.heap.objs.size _ (Nat.ne_of_gt hSI) (Heap.get?_push_size _ rfl)
    exact loopD (s := s) (h₁ := s.heap) hh (Nat.ne_of_lt hSI) hSd (Nat.ne_of_lt hdI) hn res hdd (fun h' c hk2 hS2 => hR h' c (fun b o hb e => hk2 b o hb (Nat.ne_of_lt (Heap.lt_size e)) e) hS2)
      es.size 0 h c₁ #[] (Nat.sub_zero _) (Nat.zero_le _) ⟨_, hI, rfl, rfl⟩ (hk' d _ hSd (Heap.get?_push_of_some _ ho)) (fun b o hb _ e => hk' b o hb (Heap.get?_push_of_some _ e)) hS₁ rfl
  unfold Builtin.List.listExtendWith
  refine wpAny_bind (wpAny_typeOf (T := "dict") hT ?_)
  have h1 : Builtin.List.listSameRef (.ref S) (.ref d) = false := by simp [Builtin.List.listSameRef, Ne.symm hSd]
  have h2 : (Value.type "dict" == Value.type "list") = false := by decide
  have h3 : (Value.type "dict" == Value.type "tuple") = false := by decide
  simp only [h1, h2, h3, Bool.or_false, Bool.false_eq_true, if_false]
  refine wpAny_bind (iter_keys hsys ho hx hdd ?_)
  have hS₁ := Heap.get?_push_of_some { cls := .type "dict_keyiterator", data := .fields #[.ref d, .int 0 0, .int es.size 0, .int ep 0] } hS
  refine wpAny_bind (wpAny_holding (dict_hint (let ⟨o, ho, hc⟩ := hT; ⟨o, Heap.get?_push_of_some _ ho, hc⟩) ?_))
  refine wpAny_ite_split (fun _ => ?_) (fun _ => wpAny_pure ⟨plainId_quiet PySem.F.plain_extend_loop _, key _ c₀ (fun b o _ e => e) hS₁⟩)
  refine wpAny_bind (wpAny_rule ?_)
  refine wpAny_bind ?_
  show wpAny _ _ (updateSeq S (·.push .none) >>= fun _ => updateSeq S (·.pop)) _ _ _
  refine wpAny_bind (wpAny_updateSeq hS₁ rfl ?_)
  have hS₂ := Heap.get?_update_self (Obj.mapSeq (·.push Value.none)) hS₁ rfl
  refine wpAny_updateSeq (hz := by seq_fits) hS₂ rfl ?_
  have hS₃ := Heap.get?_update_self (Obj.mapSeq (·.pop)) hS₂ rfl
  refine wpAny_pure ⟨plainId_quiet PySem.F.plain_extend_loop _, key _ _ (fun b o hb e => ?_) hS₃⟩
  exact (Heap.get?_update_other _ _ (Ne.symm hb)).trans ((Heap.get?_update_other _ _ (Ne.symm hb)).trans e)
theorem collectN {R : List Value → Shared → Prop} (hh : A.handled = none) (hsys : (d == sysModules) = false) (ho : s.heap.get? d = some od) (hx : od.ExactDict) (hdd : od.data = .dict es ep) (hn : es.size ≤ sizeLine)
    (h : ∀ (h' : Heap), (∀ b o, s.heap.get? b = some o → h'.get? b = some o) → s.heap.objs.size < h'.objs.size → R (es.toList.map (·.key)) { s with heap := h' }) :
    wpAny (model prog w) A (collect (.ref d)) R E s := by
  have hd : d < s.heap.objs.size := Heap.lt_size ho
  unfold collect
  refine wpAny_bind (wpAny_runValue (codeAny_builtin entry_proto_collect' ?_))
  rw [Around.under_plainId PySem.F.plain_proto_collect _]
  show wpAny _ A.in1 (newList [] >>= fun l => again (.builtin "list.__iadd__" ⟨[l, .ref d], []⟩)) _ _ s
  refine wpAny_bind (wpAny_newObj_type ?_)
  refine wpAny_pure ⟨plainId_quiet PySem.F.plain_list_iadd _, codeAny_builtin entry_list_iadd' ?_⟩
  rw [Around.under_plainId PySem.F.plain_list_iadd _]
  have hS₁ : (s.heap.push { cls := .type "list", data := .seq ([] : List Value).toArray }).get? s.heap.objs.size = some { cls := .type "list", data := .seq #[] } := Heap.get?_push_size _ rfl
  show wpAny _ A.in1 (Builtin.List.listExtendWith (.ref s.heap.objs.size) (.ref d) (.ref s.heap.objs.size)) _ _ _
  have key := extN (prog := prog) (w := w) (A := A) (s := { s with heap := s.heap.push { cls := .type "list", data := .seq ([] : List Value).toArray } }) (es := es) (ep := ep) (od := od)
    (R := fun (q : Result) (s' : Shared) => ∃ (h' : Heap) (c' : Nat), q = .ok (.ret (.ref s.heap.objs.size)) ∧ s' = { s with heap := h' } ∧
      (∀ b o, s.heap.get? b = some o → h'.get? b = some o) ∧ h'.get? s.heap.objs.size = some { cls := .type "list", dict := none, data := .seq (es.map (·.key)) c', slots := #[] })
    hh hsys (Heap.get?_push_of_some _ ho) hx hdd s.heap.objs.size (Nat.ne_of_lt hd) (.ref s.heap.objs.size) 0 hS₁
    (fun h' c' hk2 hS' => ⟨h', c', rfl, rfl, fun b o e => hk2 b o (Nat.ne_of_lt (Heap.lt_size e)) (Heap.get?_push_of_some _ e), hS'⟩) hn
  have fin : ∀ (h' : Heap) (c' : Nat), (∀ b o, s.heap.get? b = some o → h'.get? b = some o) → h'.get? s.heap.objs.size = some { cls := .type "list", dict := none, data := .seq (es.map (·.key)) c', slots := #[] } → R (es.map (·.key)).toList { s with heap := h' } := fun h' c' hk2 hS' => by
    rw [Array.toList_map]
    exact h h' hk2 (Heap.lt_size hS')
  refine wpAny_mono key (fun fn s' x => ?_) fun e s' x => ?_
  · cases fn with
    | done f =>
      obtain ⟨h', c', e, rfl, hk2, hS'⟩ := x
      cases e
      show wpAny _ A (load s.heap.objs.size >>= _) _ _ _
      refine wpAny_bind (wpAny_load hS' ?_)
      exact wpAny_pure (fin h' c' hk2 hS')
    | again c₁ =>
      refine ⟨x.1, codeAny_mono x.2 fun q s₂ y => ?_⟩
      obtain ⟨h', c', rfl, rfl, hk2, hS'⟩ := y
      show wpAny _ A (load s.heap.objs.size >>= _) _ _ _
      refine wpAny_bind (wpAny_load hS' ?_)
      exact wpAny_pure (fin h' c' hk2 hS')
  · obtain ⟨_, _, e', _⟩ := x
    cases e'
end
section
variable {X : Cx}
theorem vals_refs : ∀ bs : List Addr, Vals (bs.map V.ref) (bs.map Value.ref)
  | [] => .nil
  | _ :: bs => .cons rfl (vals_refs bs)
/-- sorted(d), the keys tuples whose data are ds -/
def rSortedN (K : PySem.W.Frag) (w : World) : List V → Hp → VK → Prop := fun vs H Q => ∃ (a : Addr) (kvs : List (NestedKey × V)) (ds : List PyData) (β : Bool), vs = [V.ref a] ∧ RdDN β K w H a kvs ∧
  (∀ bs : List Addr, Paired (fun kv b => NIs β K H kv.1 (.ref b)) kvs bs → DpAll K H (bs.map V.ref) ds) ∧ AllAlike ds ∧ Sortable ds ∧ (∀ d ∈ ds, d.depth ≤ 60) ∧
  ∀ bs : List Addr, Paired (fun kv b => NIs β K H kv.1 (.ref b)) kvs bs → New (.lst (zsort (bs.map V.ref) ds)) H Q
theorem cr_sortedN (hc : X.calm = true) (hu : X.A.units + 64 < cLine) : CallR X (.builtin "sorted") (rSortedN X.K X.w) := by
  intro pins s σ H vs us Q I r h
  obtain ⟨a, kvs, ds, β, rfl, hr, hd, hal, hso, hdep, q⟩ := h
  rw [Vals.ref1 r]
  obtain ⟨hz, hsys, xs, _, kn, hdo⟩ := dn_at I hr
  obtain ⟨od, es, ep, ho, hx, hdat, hes, _⟩ := hdo
  have pd : Paired (fun (kv : NestedKey × V) b => NIs β X.K H kv.1 (.ref b)) kvs (xs.map (·.2.1)) := by
    have go : ∀ {l : List (NestedKey × V)} {m : List (NestedKey × Addr × Value)}, KN β X.K H l m → Paired (fun (kv : NestedKey × V) b => NIs β X.K H kv.1 (.ref b)) l (m.map (·.2.1)) := by
      intro l m z
      induction z with
      | nil => exact .nil
      | cons h _ ih => exact .cons h.2.1.1 ih
    exact go kn
  have hkeys : es.toList.map (·.key) = (xs.map (·.2.1)).map Value.ref := by
    rw [hes, List.map_map, List.map_map]
    rfl
  obtain ⟨bs, hbs⟩ : ∃ bs, bs = xs.map (·.2.1) := ⟨_, rfl⟩
  rw [← hbs] at pd hkeys
  have hdb := hd bs pd
  have hq := q bs pd
  have hlen := dpLen hdb
  have lb : bs.length ≤ sizeLine := by
    rw [← Paired.length pd]
    exact hz
  have lz : es.size ≤ sizeLine := by
    have := congrArg List.length hkeys
    rw [List.length_map, List.length_map, Array.length_toList] at this
    rw [this]
    exact lb
  refine Calls.call_function_entry kind_sorted plain_sorted entry_sorted (args_sorted1 _) ?_
  unfold Builtin.«sorted»
  refine wpAny_bind (m := checkCount "sorted" 1 1 _) (wpAny_pure ?_)
  refine wpAny_bind (collectN (A := X.A.in1) (I.ok.hd hc) hsys ho hx hdat lz fun h' hk' hlt => ?_)
  rw [hkeys]
  refine wpAny_bind (wpAny_newList ?_ (by rw [List.length_map]; exact lb))
  have hoL : (h'.push (seqObj "list" (bs.map Value.ref).toArray 0)).get? h'.objs.size = some (seqObj "list" (bs.map Value.ref).toArray 0) := Heap.get?_push_size _ rfl
  have rv : Vals (bs.map V.ref) (bs.map Value.ref) := vals_refs bs
  obtain ⟨as, hrd⟩ := Dp.readsAll I ds (bs.map V.ref) (bs.map Value.ref) hdb rv
  have e0 := each_reads hrd
  have old : ∀ b o, s.heap.get? b = some o → (PySem.W.sortingHeap (h'.push (seqObj "list" (bs.map Value.ref).toArray 0)) h'.objs.size (bs.map Value.ref)).get? b = some o := fun b o e => by
    have e1 := hk' b o e
    exact PySem.W.sortingHeap_old (Nat.ne_of_lt (Heap.lt_size e1)) (Heap.get?_push_of_some _ e1)
  have e1 : EachIs (fun v d => ∃ as, Reads (PySem.W.sortingHeap (h'.push (seqObj "list" (bs.map Value.ref).toArray 0)) h'.objs.size (bs.map Value.ref)) v d as) (bs.map Value.ref) ds := e0.mono fun v d ⟨as, z⟩ => ⟨as, Reads.keeps old z⟩
  refine wpAny_bind (wpAny_holding (wpAny_call_entry PyProof.Rows.slot_list_sort ⟨_, hoL, rfl⟩ PyProof.Rows.entry_list_sort
    (PySem.W.list_sort_vals (κ := dataKind (PySem.W.sortingHeap (h'.push (seqObj "list" (bs.map Value.ref).toArray 0)) h'.objs.size (bs.map Value.ref)) ds) (s := { s with heap := h'.push (seqObj "list" (bs.map Value.ref).toArray 0) }) hoL (PySem.W.SortsAt.data (s := { s with heap := PySem.W.sortingHeap (h'.push (seqObj "list" (bs.map Value.ref).toArray 0)) h'.objs.size (bs.map Value.ref) }) e1 hal hso fun d m => ?_) (by rw [List.length_map]; exact lb) ⟨_, rfl, ?_⟩) (PyProof.Rows.args_list_sort _)))
  · show X.A.units + 1 + 1 + d.depth < cLine
    have := hdep d m
    omega
  have ez : ((bs.map V.ref).zip ds).map (·.2) = ds := by
    rw [List.map_snd_zip]
    rw [hlen]
    exact Nat.le_refl _
  have ko : KeyedOut false (((bs.map V.ref).zip ds).map (·.2)) (bs.map Value.ref) (sortVals (dataKind (PySem.W.sortingHeap (h'.push (seqObj "list" (bs.map Value.ref).toArray 0)) h'.objs.size (bs.map Value.ref)) ds) false (bs.map Value.ref) (bs.map Value.ref)) := by
    rw [ez]
    exact ⟨_, bs.map Value.ref, hal, rfl, e1⟩
  have ev := each_vals (PySem.W.keyedOut_each (·.2) ko (each_zip rv hlen))
  obtain ⟨c, hc'⟩ := sortedHeap_at (vs := bs.map Value.ref) (out := (sortVals (dataKind (PySem.W.sortingHeap (h'.push (seqObj "list" (bs.map Value.ref).toArray 0)) h'.objs.size (bs.map Value.ref)) ds) false (bs.map Value.ref) (bs.map Value.ref)).toArray) hoL
  have hle : s.heap.objs.size ≤ h'.objs.size := Nat.le_of_lt hlt
  have hn : H h'.objs.size = none := I.hok.fresh hle
  refine wpAny_pure ⟨_, rfl, .ref _, upd H h'.objs.size (.lst (zsort (bs.map V.ref) ds)), I.laid (t' := s.toks) (fun b o e => ?_) hle ⟨?_, _, c, ev, hc'⟩, rfl, hq.go _ hn⟩
  · have e1 := hk' b o e
    have hb := Heap.lt_size e1
    rw [sortedHeap_old (Nat.ne_of_lt hb) (by rw [Heap.size_push]; exact Nat.lt_succ_of_lt hb)]
    exact Heap.get?_push_of_some _ e1
  · rw [zsort_len hlen, List.length_map]
    exact lb
end
end My
set_option Elab.async false
set_option linter.all false
set_option maxRecDepth 100000
set_option maxHeartbeats 4000000
namespace K36
open PySem L2 My
def topS (i : Nat) : Stmt := PySem.Challenge.pw_listwindow_k36_fewest_turns_by_all_lists.main.body.getD i (.Pass ⟨0, 0, 0, 0⟩)
abbrev PR : Program := PySem.Challenge.pw_listwindow_k36_fewest_turns_by_all_lists
abbrev s_init : Stmt := inClass (topS 1) 0
abbrev s_need_from : Stmt := topS 5
theorem sc_need_from : FnScope ["number", "least"] ["number", "least"] (defScope s_need_from) := ⟨rfl, rfl, rfl, by decide +kernel, rfl, by decide +kernel, by decide +kernel⟩
abbrev s_need_rooms : Stmt := topS 6
theorem sc_need_rooms : FnScope ["rooms", "size"] ["rooms"] (defScope s_need_rooms) := ⟨rfl, rfl, rfl, by decide +kernel, rfl, by decide +kernel, by decide +kernel⟩
abbrev s_need_scrolls : Stmt := topS 7
theorem sc_need_scrolls : FnScope ["rooms", "scrolls", "size", "scroll"] ["rooms", "scrolls"] (defScope s_need_scrolls) := ⟨rfl, rfl, rfl, by decide +kernel, rfl, by decide +kernel, by decide +kernel⟩
abbrev s_need_effect : Stmt := topS 8
theorem sc_need_effect : FnScope ["size", "effect"] ["size", "effect"] (defScope s_need_effect) := ⟨rfl, rfl, rfl, by decide +kernel, rfl, by decide +kernel, by decide +kernel⟩
abbrev s_check_effect : Stmt := topS 9
theorem sc_check_effect : FnScope ["size", "effect", "shift", "low", "high"] ["size", "effect"] (defScope s_check_effect) := ⟨rfl, rfl, rfl, by decide +kernel, rfl, by decide +kernel, by decide +kernel⟩
abbrev s_after_turn : Stmt := topS 10
theorem sc_after_turn : FnScope ["rooms", "scrolls", "turn", "window", "page", "own"] ["rooms", "scrolls", "turn"] (defScope s_after_turn) := ⟨rfl, rfl, rfl, by decide +kernel, rfl, by decide +kernel, by decide +kernel⟩
abbrev s_scrolls_after : Stmt := topS 11
theorem sc_scrolls_after : FnScope ["rooms", "scrolls", "turns", "found", "turn"] ["rooms", "scrolls", "turns"] (defScope s_scrolls_after) := ⟨rfl, rfl, rfl, by decide +kernel, rfl, by decide +kernel, by decide +kernel⟩
abbrev s_turned_by : Stmt := topS 12
theorem sc_turned_by : FnScope ["rooms", "scrolls", "turns", "window", "page"] ["rooms", "scrolls", "turns"] (defScope s_turned_by) := ⟨rfl, rfl, rfl, by decide +kernel, rfl, by decide +kernel, by decide +kernel⟩
abbrev s_turns_to_one : Stmt := topS 13
theorem sc_turns_to_one : FnScope ["size", "place"] ["size", "place"] (defScope s_turns_to_one) := ⟨rfl, rfl, rfl, by decide +kernel, rfl, by decide +kernel, by decide +kernel⟩
abbrev s_turns_for : Stmt := topS 14
theorem sc_turns_for : FnScope ["size", "effect", "shift", "low", "high", "least", "greatest", "stops", "found", "here", "stop"] ["size", "effect"] (defScope s_turns_for) := ⟨rfl, rfl, rfl, by decide +kernel, rfl, by decide +kernel, by decide +kernel⟩
abbrev s_number_of_effects : Stmt := topS 15
theorem sc_number_of_effects : FnScope ["size"] ["size"] (defScope s_number_of_effects) := ⟨rfl, rfl, rfl, by decide +kernel, rfl, by decide +kernel, by decide +kernel⟩
abbrev s_fewest_turns : Stmt := topS 16
theorem sc_fewest_turns : FnScope ["rooms", "scrolls", "goal", "window", "page", "later", "beyond", "found", "turn"] ["rooms", "scrolls", "goal"] (defScope s_fewest_turns) := ⟨rfl, rfl, rfl, by decide +kernel, rfl, by decide +kernel, by decide +kernel⟩
abbrev s__law_jug : Stmt := topS 18
theorem sc__law_jug : FnScope ["_law_script", "_law_k", "_law_cell"] ["_law_script", "_law_k"] (defScope s__law_jug) := ⟨rfl, rfl, rfl, by decide +kernel, rfl, by decide +kernel, by decide +kernel⟩
abbrev s__law_pour : Stmt := topS 19
theorem sc__law_pour : FnScope ["_law_jug_here", "_law_many", "_law_found", "_law_mixed"] ["_law_jug_here", "_law_many"] (defScope s__law_pour) := ⟨rfl, rfl, rfl, by decide +kernel, rfl, by decide +kernel, by decide +kernel⟩
abbrev s__law_effect : Stmt := topS 20
theorem sc__law_effect : FnScope ["_law_size", "_law_turns", "_law_low", "_law_high", "_law_turn"] ["_law_size", "_law_turns"] (defScope s__law_effect) := ⟨rfl, rfl, rfl, by decide +kernel, rfl, by decide +kernel, by decide +kernel⟩
abbrev s__law_lists : Stmt := topS 21
theorem sc__law_lists : FnScope ["_law_most", "_law_many", "_law_found", "_law_last", "_law_turn", "_law_row", "_law_number"] ["_law_most", "_law_many"] (defScope s__law_lists) := ⟨rfl, rfl, rfl, by decide +kernel, rfl, by decide +kernel, by decide +kernel⟩
abbrev s__law_pairs : Stmt := topS 22
theorem sc__law_pairs : FnScope ["_law_rows", "_law_most", "_law_found", "_law_row", "_law_number"] ["_law_rows", "_law_most"] (defScope s__law_pairs) := ⟨rfl, rfl, rfl, by decide +kernel, rfl, by decide +kernel, by decide +kernel⟩
abbrev s__law_key : Stmt := topS 23
theorem sc__law_key : FnScope ["_law_turns", "_law_turn"] ["_law_turns"] (defScope s__law_key) := ⟨rfl, rfl, rfl, by decide +kernel, rfl, by decide +kernel, by decide +kernel⟩
abbrev s__law_effects_right : Stmt := topS 24
theorem sc__law_effects_right : FnScope ["_law_size", "_law_width", "_law_best", "_law_turns", "_law_effect_here", "_law_far", "_law_great", "_law_number", "_law_turn"] ["_law_size", "_law_width"] (defScope s__law_effects_right) := ⟨rfl, rfl, rfl, by decide +kernel, rfl, by decide +kernel, by decide +kernel⟩
abbrev s__law_goal_right : Stmt := topS 25
theorem sc__law_goal_right : FnScope ["_law_rooms", "_law_scrolls", "_law_goal", "_law_width", "_law_best", "_law_turns", "_law_wide", "_law_told", "_law_pair", "_law_turn"] ["_law_rooms", "_law_scrolls", "_law_goal", "_law_width"] (defScope s__law_goal_right) := ⟨rfl, rfl, rfl, by decide +kernel, rfl, by decide +kernel, by decide +kernel⟩
abbrev s__law_great_right : Stmt := topS 26
theorem sc__law_great_right : FnScope ["_law_jug_here", "_law_size", "_law_below", "_law_above", "_law_shift", "_law_effect_here", "_law_best", "_law_stops", "_law_turns", "_law_rooms", "_law_more", "_law_here", "_law_goal", "_law_stop", "_law_other", "_law_turn"] ["_law_jug_here"] (defScope s__law_great_right) := ⟨rfl, rfl, rfl, by decide +kernel, rfl, by decide +kernel, by decide +kernel⟩
abbrev s__law_ticked : Stmt := topS 27
theorem sc__law_ticked : FnScope ["_law_rooms", "_law_scrolls", "_law_turns", "_law_window", "_law_page", "_law_turn", "_law_own"] ["_law_rooms", "_law_scrolls", "_law_turns"] (defScope s__law_ticked) := ⟨rfl, rfl, rfl, by decide +kernel, rfl, by decide +kernel, by decide +kernel⟩
abbrev s__law_refused : Stmt := topS 28
theorem sc__law_refused : FnScope ["_law_word", "_law_size", "_law_effect_here", "_law_rooms", "_law_scrolls", "_law_goal", "e"] ["_law_word", "_law_size", "_law_effect_here", "_law_rooms", "_law_scrolls", "_law_goal"] (defScope s__law_refused) := ⟨rfl, rfl, rfl, by decide +kernel, rfl, by decide +kernel, by decide +kernel⟩
abbrev s__law_errors_right : Stmt := topS 29
theorem sc__law_errors_right : FnScope ["_law_jug_here", "_law_rooms", "_law_size", "_law_low", "_law_effects", "_law_effect_here", "_law_pairs_here", "_law_bad", "_law_pair", "_law_turn", "_law_number", "_law_most"] ["_law_jug_here", "_law_rooms"] (defScope s__law_errors_right) := ⟨rfl, rfl, rfl, by decide +kernel, rfl, by decide +kernel, by decide +kernel⟩
abbrev s_law : Stmt := topS 30
theorem sc_law : FnScope ["_law_script", "_law_k", "_law_jug_here", "_law_width", "_law_rooms", "_law_turn", "_law_scrolls", "_law_goal"] ["_law_script"] (defScope s_law) := ⟨rfl, rfl, rfl, by decide +kernel, rfl, by decide +kernel, by decide +kernel⟩
structure Txt (K : PySem.W.Frag) (mg : Str → Option Value) where
  a_need_from : Addr
  d_need_from : FuncData
  f_need_from : Fun K "need_from" "need_from" s_need_from a_need_from d_need_from
  g_need_from : mg "need_from" = some (.ref a_need_from)
  a_need_rooms : Addr
  d_need_rooms : FuncData
  f_need_rooms : Fun K "need_rooms" "need_rooms" s_need_rooms a_need_rooms d_need_rooms
  g_need_rooms : mg "need_rooms" = some (.ref a_need_rooms)
  a_need_scrolls : Addr
  d_need_scrolls : FuncData
  f_need_scrolls : Fun K "need_scrolls" "need_scrolls" s_need_scrolls a_need_scrolls d_need_scrolls
  g_need_scrolls : mg "need_scrolls" = some (.ref a_need_scrolls)
  a_need_effect : Addr
  d_need_effect : FuncData
  f_need_effect : Fun K "need_effect" "need_effect" s_need_effect a_need_effect d_need_effect
  g_need_effect : mg "need_effect" = some (.ref a_need_effect)
  a_check_effect : Addr
  d_check_effect : FuncData
  f_check_effect : Fun K "check_effect" "check_effect" s_check_effect a_check_effect d_check_effect
  g_check_effect : mg "check_effect" = some (.ref a_check_effect)
  a_after_turn : Addr
  d_after_turn : FuncData
  f_after_turn : Fun K "after_turn" "after_turn" s_after_turn a_after_turn d_after_turn
  g_after_turn : mg "after_turn" = some (.ref a_after_turn)
  a_scrolls_after : Addr
  d_scrolls_after : FuncData
  f_scrolls_after : Fun K "scrolls_after" "scrolls_after" s_scrolls_after a_scrolls_after d_scrolls_after
  g_scrolls_after : mg "scrolls_after" = some (.ref a_scrolls_after)
  a_turned_by : Addr
  d_turned_by : FuncData
  f_turned_by : Fun K "turned_by" "turned_by" s_turned_by a_turned_by d_turned_by
  g_turned_by : mg "turned_by" = some (.ref a_turned_by)
  a_turns_to_one : Addr
  d_turns_to_one : FuncData
  f_turns_to_one : Fun K "turns_to_one" "turns_to_one" s_turns_to_one a_turns_to_one d_turns_to_one
  g_turns_to_one : mg "turns_to_one" = some (.ref a_turns_to_one)
  a_turns_for : Addr
  d_turns_for : FuncData
  f_turns_for : Fun K "turns_for" "turns_for" s_turns_for a_turns_for d_turns_for
  g_turns_for : mg "turns_for" = some (.ref a_turns_for)
  a_number_of_effects : Addr
  d_number_of_effects : FuncData
  f_number_of_effects : Fun K "number_of_effects" "number_of_effects" s_number_of_effects a_number_of_effects d_number_of_effects
  g_number_of_effects : mg "number_of_effects" = some (.ref a_number_of_effects)
  a_fewest_turns : Addr
  d_fewest_turns : FuncData
  f_fewest_turns : Fun K "fewest_turns" "fewest_turns" s_fewest_turns a_fewest_turns d_fewest_turns
  g_fewest_turns : mg "fewest_turns" = some (.ref a_fewest_turns)
  a__law_jug : Addr
  d__law_jug : FuncData
  f__law_jug : Fun K "_law_jug" "_law_jug" s__law_jug a__law_jug d__law_jug
  g__law_jug : mg "_law_jug" = some (.ref a__law_jug)
  a__law_pour : Addr
  d__law_pour : FuncData
  f__law_pour : Fun K "_law_pour" "_law_pour" s__law_pour a__law_pour d__law_pour
  g__law_pour : mg "_law_pour" = some (.ref a__law_pour)
  a__law_effect : Addr
  d__law_effect : FuncData
  f__law_effect : Fun K "_law_effect" "_law_effect" s__law_effect a__law_effect d__law_effect
  g__law_effect : mg "_law_effect" = some (.ref a__law_effect)
  a__law_lists : Addr
  d__law_lists : FuncData
  f__law_lists : Fun K "_law_lists" "_law_lists" s__law_lists a__law_lists d__law_lists
  g__law_lists : mg "_law_lists" = some (.ref a__law_lists)
  a__law_pairs : Addr
  d__law_pairs : FuncData
  f__law_pairs : Fun K "_law_pairs" "_law_pairs" s__law_pairs a__law_pairs d__law_pairs
  g__law_pairs : mg "_law_pairs" = some (.ref a__law_pairs)
  a__law_key : Addr
  d__law_key : FuncData
  f__law_key : Fun K "_law_key" "_law_key" s__law_key a__law_key d__law_key
  g__law_key : mg "_law_key" = some (.ref a__law_key)
  a__law_effects_right : Addr
  d__law_effects_right : FuncData
  f__law_effects_right : Fun K "_law_effects_right" "_law_effects_right" s__law_effects_right a__law_effects_right d__law_effects_right
  g__law_effects_right : mg "_law_effects_right" = some (.ref a__law_effects_right)
  a__law_goal_right : Addr
  d__law_goal_right : FuncData
  f__law_goal_right : Fun K "_law_goal_right" "_law_goal_right" s__law_goal_right a__law_goal_right d__law_goal_right
  g__law_goal_right : mg "_law_goal_right" = some (.ref a__law_goal_right)
  a__law_great_right : Addr
  d__law_great_right : FuncData
  f__law_great_right : Fun K "_law_great_right" "_law_great_right" s__law_great_right a__law_great_right d__law_great_right
  g__law_great_right : mg "_law_great_right" = some (.ref a__law_great_right)
  a__law_ticked : Addr
  d__law_ticked : FuncData
  f__law_ticked : Fun K "_law_ticked" "_law_ticked" s__law_ticked a__law_ticked d__law_ticked
  g__law_ticked : mg "_law_ticked" = some (.ref a__law_ticked)
  a__law_refused : Addr
  d__law_refused : FuncData
  f__law_refused : Fun K "_law_refused" "_law_refused" s__law_refused a__law_refused d__law_refused
  g__law_refused : mg "_law_refused" = some (.ref a__law_refused)
  a__law_errors_right : Addr
  d__law_errors_right : FuncData
  f__law_errors_right : Fun K "_law_errors_right" "_law_errors_right" s__law_errors_right a__law_errors_right d__law_errors_right
  g__law_errors_right : mg "_law_errors_right" = some (.ref a__law_errors_right)
  a_law : Addr
  d_law : FuncData
  f_law : Fun K "law" "law" s_law a_law d_law
  g_law : mg "law" = some (.ref a_law)
  fI : Addr
  cI : Addr
  cdI : Addr
  dD : Addr
  dI : FuncData
  iT : InitT PR K mg s_init "WindowError.__init__" fI cI cdI dD dI
  c_WindowError : Addr
  e_WindowError : ErrC K fI dD c_WindowError
  g_WindowError : mg "WindowError" = some (.ref c_WindowError)
  c_InvalidNumber : Addr
  e_InvalidNumber : ErrC K fI dD c_InvalidNumber
  g_InvalidNumber : mg "InvalidNumber" = some (.ref c_InvalidNumber)
  c_InvalidValue : Addr
  e_InvalidValue : ErrC K fI dD c_InvalidValue
  g_InvalidValue : mg "InvalidValue" = some (.ref c_InvalidValue)
  x_InvalidNumber_InvalidNumber : PySem.W.exmOne K (.ref c_InvalidNumber) (.ref c_InvalidNumber) = some true
  x_InvalidValue_InvalidNumber : PySem.W.exmOne K (.ref c_InvalidValue) (.ref c_InvalidNumber) = some false
  x_InvalidValue_InvalidValue : PySem.W.exmOne K (.ref c_InvalidValue) (.ref c_InvalidValue) = some true
  z_zip : mg "zip" = none
  z_min : mg "min" = none
  z_max : mg "max" = none
  z_len : mg "len" = none
  z_int : mg "int" = none
  z_sum : mg "sum" = none
  z_range : mg "range" = none
  z_abs : mg "abs" = none
  z_sorted : mg "sorted" = none
  z_tuple : mg "tuple" = none
theorem ok_init {w : World} {K : PySem.W.Frag} {mg : Str → Option Value} {base : Heap} (T : Txt K mg) : FnOk PR w K mg base CX0 1 T.fI T.dI ["self", "value"] (spErr K T.fI T.dD) := ok_err T.iT (NdefX.nscope_by (by decide +kernel)) rfl rfl rfl (fun env => rfl)
theorem b_init {K : PySem.W.Frag} {mg : Str → Option Value} (T : Txt K mg) : Binds K T.dI ["self", "value"] [] := by
  obtain ⟨oc, od, kV, doc, pm, an, ct, osl, e, lk⟩ := T.iT.ex
  rw [e]
  exact .all fun us hl => match us, hl with | [_, _], _ => rfl
theorem b_need_from {K : PySem.W.Frag} {mg : Str → Option Value} (T : Txt K mg) : Binds K T.d_need_from ["number", "least"] [] := T.f_need_from.binds (ps := ["number", "least"]) fun _ _ _ _ _ _ us hl => match us, hl with | [_, _], _ => rfl
theorem b_need_rooms {K : PySem.W.Frag} {mg : Str → Option Value} (T : Txt K mg) : Binds K T.d_need_rooms ["rooms"] [] := T.f_need_rooms.binds (ps := ["rooms"]) fun _ _ _ _ _ _ us hl => match us, hl with | [_], _ => rfl
theorem b_need_scrolls {K : PySem.W.Frag} {mg : Str → Option Value} (T : Txt K mg) : Binds K T.d_need_scrolls ["rooms", "scrolls"] [] := T.f_need_scrolls.binds (ps := ["rooms", "scrolls"]) fun _ _ _ _ _ _ us hl => match us, hl with | [_, _], _ => rfl
theorem b_need_effect {K : PySem.W.Frag} {mg : Str → Option Value} (T : Txt K mg) : Binds K T.d_need_effect ["size", "effect"] [] := T.f_need_effect.binds (ps := ["size", "effect"]) fun _ _ _ _ _ _ us hl => match us, hl with | [_, _], _ => rfl
theorem b_check_effect {K : PySem.W.Frag} {mg : Str → Option Value} (T : Txt K mg) : Binds K T.d_check_effect ["size", "effect"] [] := T.f_check_effect.binds (ps := ["size", "effect"]) fun _ _ _ _ _ _ us hl => match us, hl with | [_, _], _ => rfl
theorem b_after_turn {K : PySem.W.Frag} {mg : Str → Option Value} (T : Txt K mg) : Binds K T.d_after_turn ["rooms", "scrolls", "turn"] [] := T.f_after_turn.binds (ps := ["rooms", "scrolls", "turn"]) fun _ _ _ _ _ _ us hl => match us, hl with | [_, _, _], _ => rfl
theorem b_scrolls_after {K : PySem.W.Frag} {mg : Str → Option Value} (T : Txt K mg) : Binds K T.d_scrolls_after ["rooms", "scrolls", "turns"] [] := T.f_scrolls_after.binds (ps := ["rooms", "scrolls", "turns"]) fun _ _ _ _ _ _ us hl => match us, hl with | [_, _, _], _ => rfl
theorem b_turned_by {K : PySem.W.Frag} {mg : Str → Option Value} (T : Txt K mg) : Binds K T.d_turned_by ["rooms", "scrolls", "turns"] [] := T.f_turned_by.binds (ps := ["rooms", "scrolls", "turns"]) fun _ _ _ _ _ _ us hl => match us, hl with | [_, _, _], _ => rfl
theorem b_turns_to_one {K : PySem.W.Frag} {mg : Str → Option Value} (T : Txt K mg) : Binds K T.d_turns_to_one ["size", "place"] [] := T.f_turns_to_one.binds (ps := ["size", "place"]) fun _ _ _ _ _ _ us hl => match us, hl with | [_, _], _ => rfl
theorem b_turns_for {K : PySem.W.Frag} {mg : Str → Option Value} (T : Txt K mg) : Binds K T.d_turns_for ["size", "effect"] [] := T.f_turns_for.binds (ps := ["size", "effect"]) fun _ _ _ _ _ _ us hl => match us, hl with | [_, _], _ => rfl
theorem b_number_of_effects {K : PySem.W.Frag} {mg : Str → Option Value} (T : Txt K mg) : Binds K T.d_number_of_effects ["size"] [] := T.f_number_of_effects.binds (ps := ["size"]) fun _ _ _ _ _ _ us hl => match us, hl with | [_], _ => rfl
theorem b_fewest_turns {K : PySem.W.Frag} {mg : Str → Option Value} (T : Txt K mg) : Binds K T.d_fewest_turns ["rooms", "scrolls", "goal"] [] := T.f_fewest_turns.binds (ps := ["rooms", "scrolls", "goal"]) fun _ _ _ _ _ _ us hl => match us, hl with | [_, _, _], _ => rfl
theorem b__law_jug {K : PySem.W.Frag} {mg : Str → Option Value} (T : Txt K mg) : Binds K T.d__law_jug ["_law_script", "_law_k"] [] := T.f__law_jug.binds (ps := ["_law_script", "_law_k"]) fun _ _ _ _ _ _ us hl => match us, hl with | [_, _], _ => rfl
theorem b__law_pour {K : PySem.W.Frag} {mg : Str → Option Value} (T : Txt K mg) : Binds K T.d__law_pour ["_law_jug_here", "_law_many"] [] := T.f__law_pour.binds (ps := ["_law_jug_here", "_law_many"]) fun _ _ _ _ _ _ us hl => match us, hl with | [_, _], _ => rfl
theorem b__law_effect {K : PySem.W.Frag} {mg : Str → Option Value} (T : Txt K mg) : Binds K T.d__law_effect ["_law_size", "_law_turns"] [] := T.f__law_effect.binds (ps := ["_law_size", "_law_turns"]) fun _ _ _ _ _ _ us hl => match us, hl with | [_, _], _ => rfl
theorem b__law_lists {K : PySem.W.Frag} {mg : Str → Option Value} (T : Txt K mg) : Binds K T.d__law_lists ["_law_most", "_law_many"] [] := T.f__law_lists.binds (ps := ["_law_most", "_law_many"]) fun _ _ _ _ _ _ us hl => match us, hl with | [_, _], _ => rfl
theorem b__law_pairs {K : PySem.W.Frag} {mg : Str → Option Value} (T : Txt K mg) : Binds K T.d__law_pairs ["_law_rows", "_law_most"] [] := T.f__law_pairs.binds (ps := ["_law_rows", "_law_most"]) fun _ _ _ _ _ _ us hl => match us, hl with | [_, _], _ => rfl
theorem b__law_key {K : PySem.W.Frag} {mg : Str → Option Value} (T : Txt K mg) : Binds K T.d__law_key ["_law_turns"] [] := T.f__law_key.binds (ps := ["_law_turns"]) fun _ _ _ _ _ _ us hl => match us, hl with | [_], _ => rfl
theorem b__law_effects_right {K : PySem.W.Frag} {mg : Str → Option Value} (T : Txt K mg) : Binds K T.d__law_effects_right ["_law_size", "_law_width"] [] := T.f__law_effects_right.binds (ps := ["_law_size", "_law_width"]) fun _ _ _ _ _ _ us hl => match us, hl with | [_, _], _ => rfl
theorem b__law_goal_right {K : PySem.W.Frag} {mg : Str → Option Value} (T : Txt K mg) : Binds K T.d__law_goal_right ["_law_rooms", "_law_scrolls", "_law_goal", "_law_width"] [] := T.f__law_goal_right.binds (ps := ["_law_rooms", "_law_scrolls", "_law_goal", "_law_width"]) fun _ _ _ _ _ _ us hl => match us, hl with | [_, _, _, _], _ => rfl
theorem b__law_great_right {K : PySem.W.Frag} {mg : Str → Option Value} (T : Txt K mg) : Binds K T.d__law_great_right ["_law_jug_here"] [] := T.f__law_great_right.binds (ps := ["_law_jug_here"]) fun _ _ _ _ _ _ us hl => match us, hl with | [_], _ => rfl
theorem b__law_ticked {K : PySem.W.Frag} {mg : Str → Option Value} (T : Txt K mg) : Binds K T.d__law_ticked ["_law_rooms", "_law_scrolls", "_law_turns"] [] := T.f__law_ticked.binds (ps := ["_law_rooms", "_law_scrolls", "_law_turns"]) fun _ _ _ _ _ _ us hl => match us, hl with | [_, _, _], _ => rfl
theorem b__law_refused {K : PySem.W.Frag} {mg : Str → Option Value} (T : Txt K mg) : Binds K T.d__law_refused ["_law_word", "_law_size", "_law_effect_here", "_law_rooms", "_law_scrolls", "_law_goal"] [] := T.f__law_refused.binds (ps := ["_law_word", "_law_size", "_law_effect_here", "_law_rooms", "_law_scrolls", "_law_goal"]) fun _ _ _ _ _ _ us hl => match us, hl with | [_, _, _, _, _, _], _ => rfl
theorem b__law_errors_right {K : PySem.W.Frag} {mg : Str → Option Value} (T : Txt K mg) : Binds K T.d__law_errors_right ["_law_jug_here", "_law_rooms"] [] := T.f__law_errors_right.binds (ps := ["_law_jug_here", "_law_rooms"]) fun _ _ _ _ _ _ us hl => match us, hl with | [_, _], _ => rfl
theorem b_law {K : PySem.W.Frag} {mg : Str → Option Value} (T : Txt K mg) : Binds K T.d_law ["_law_script"] [] := T.f_law.binds (ps := ["_law_script"]) fun _ _ _ _ _ _ us hl => match us, hl with | [_], _ => rfl
theorem kb_turns_for_0_effect_size {K : PySem.W.Frag} {mg : Str → Option Value} (T : Txt K mg) : KBinds K T.d_turns_for ["size", "effect"] ["effect", "size"] (kg 0 2 [1, 0]) (kg 0 2 [1, 0]) := kbinds 0 2 [1, 0] T.f_turns_for (by decide) fun _ _ _ _ _ _ us ws h1 h2 => match us, h1, ws, h2 with | [], _, [_, _], _ => rfl
theorem kb_number_of_effects_0_size {K : PySem.W.Frag} {mg : Str → Option Value} (T : Txt K mg) : KBinds K T.d_number_of_effects ["size"] ["size"] (kg 0 1 [0]) (kg 0 1 [0]) := kbinds 0 1 [0] T.f_number_of_effects (by decide) fun _ _ _ _ _ _ us ws h1 h2 => match us, h1, ws, h2 with | [], _, [_], _ => rfl
theorem kb_fewest_turns_0_goal_scrolls_rooms {K : PySem.W.Frag} {mg : Str → Option Value} (T : Txt K mg) : KBinds K T.d_fewest_turns ["rooms", "scrolls", "goal"] ["goal", "scrolls", "rooms"] (kg 0 3 [2, 1, 0]) (kg 0 3 [2, 1, 0]) := kbinds 0 3 [2, 1, 0] T.f_fewest_turns (by decide) fun _ _ _ _ _ _ us ws h1 h2 => match us, h1, ws, h2 with | [], _, [_, _, _], _ => rfl
end K36
set_option Elab.async false
set_option maxRecDepth 100000
set_option maxHeartbeats 4000000
set_option linter.unusedVariables false
set_option linter.all false
/-! K36: fewest turns, in plain Lean. -/
namespace K36
def mn (i j : Int) : Int := if j < i then j else i
def mx (i j : Int) : Int := if j > i then j else i
theorem mn_c (i j : Int) : (j < i ∧ mn i j = j) ∨ (i ≤ j ∧ mn i j = i) := by
  unfold mn
  split <;> omega
theorem mx_c (i j : Int) : (i < j ∧ mx i j = j) ∨ (j ≤ i ∧ mx i j = i) := by
  unfold mx
  split <;> omega
abbrev Two := Int × Int
abbrev Eff := Int × Int × Int
def Valid (size : Int) (e : Eff) : Prop := 0 ≤ e.2.1 ∧ e.2.1 ≤ e.2.2 ∧ e.2.2 ≤ size ∧ (e.2.1 = e.2.2 → e.1 = 0) ∧ (e.2.1 < e.2.2 → e.2.2 - size ≤ e.1 ∧ e.1 ≤ e.2.1)
instance (size : Int) (e : Eff) : Decidable (Valid size e) := by
  unfold Valid
  infer_instance
def aft (R : Two) (t : Int) (S : Two) : Two :=
  if t > 0 then (S.1 + mn t (R.1 - S.1), mn R.2 (S.2 + t - mn t (R.1 - S.1)))
  else (S.1 - mn (0 - t) S.1, mx 0 (S.2 + t + mn (0 - t) S.1))
/-- within the rooms -/
def Ok (R S : Two) : Prop := 0 ≤ S.1 ∧ S.1 ≤ R.1 ∧ 0 ≤ S.2 ∧ S.2 ≤ R.2
def after (R S : Two) (ts : List Int) : Two := ts.foldl (fun S t => aft R t S) S
theorem after_app (R S : Two) (ts : List Int) (t : Int) : after R S (ts ++ [t]) = aft R t (after R S ts) := by
  unfold after
  rw [List.foldl_append]
  rfl
def nz (l : List Int) : List Int := l.filter fun t => !decide (t = 0)
def few0 (R S G : Two) : List Int := if S.2 < G.2 then [R.1 - S.1 + G.2 - S.2, G.1 - R.1] else if S.2 > G.2 then [G.2 - S.2 - S.1, G.1] else [G.1 - S.1]
def few (R S G : Two) : List Int := nz (few0 R S G)
def sc (w : Int) (S : Two) : Two := (w * S.1, w * S.2)
def scE (w : Int) (e : Eff) : Eff := (w * e.1, w * e.2.1, w * e.2.2)
def scL (w : Int) (l : List Int) : List Int := l.map fun t => w * t
theorem few_leads {R S G : Two} (hS : Ok R S) (hG : Ok R G) : after R S (few R S G) = G := by
  obtain ⟨r1, r2⟩ := R
  obtain ⟨s1, s2⟩ := S
  obtain ⟨g1, g2⟩ := G
  obtain ⟨a1, a2, a3, a4⟩ := hS
  obtain ⟨b1, b2, b3, b4⟩ := hG
  dsimp only at *
  unfold few few0 nz
  dsimp only
  have one : ∀ (t : Int) (x y : Int), after (r1, r2) (x, y) [t] = aft (r1, r2) t (x, y) := fun _ _ _ => rfl
  have two : ∀ (t u : Int) (x y : Int), after (r1, r2) (x, y) [t, u] = aft (r1, r2) u (aft (r1, r2) t (x, y)) := fun _ _ _ _ => rfl
  have nil : ∀ (x y : Int), after (r1, r2) (x, y) [] = (x, y) := fun _ _ => rfl
  split
  · rename_i h
    have e1 : aft (r1, r2) (r1 - s1 + g2 - s2) (s1, s2) = (r1, g2) := by
      unfold aft
      rw [if_pos (by omega)]
      dsimp only
      have h1 := mn_c (r1 - s1 + g2 - s2) (r1 - s1)
      have h2 := mn_c r2 (s2 + (r1 - s1 + g2 - s2) - mn (r1 - s1 + g2 - s2) (r1 - s1))
      ext <;> dsimp only <;> omega
    rw [List.filter_cons, if_pos (by simp; omega)]
    by_cases z : g1 - r1 = 0
    · rw [List.filter_cons, if_neg (by simp [z]), List.filter_nil, one, e1]
      ext <;> dsimp only <;> omega
    · rw [List.filter_cons, if_pos (by simp [z]), List.filter_nil, two, e1]
      unfold aft
      rw [if_neg (by omega)]
      dsimp only
      have h1 := mn_c (0 - (g1 - r1)) r1
      have h2 := mx_c 0 (g2 + (g1 - r1) + mn (0 - (g1 - r1)) r1)
      ext <;> dsimp only <;> omega
  · split
    · rename_i h h'
      have e1 : aft (r1, r2) (g2 - s2 - s1) (s1, s2) = (0, g2) := by
        unfold aft
        rw [if_neg (by omega)]
        dsimp only
        have h1 := mn_c (0 - (g2 - s2 - s1)) s1
        have h2 := mx_c 0 (s2 + (g2 - s2 - s1) + mn (0 - (g2 - s2 - s1)) s1)
        ext <;> dsimp only <;> omega
      rw [List.filter_cons, if_pos (by simp; omega)]
      by_cases z : g1 = 0
      · rw [List.filter_cons, if_neg (by simp [z]), List.filter_nil, one, e1]
        ext <;> dsimp only <;> omega
      · rw [List.filter_cons, if_pos (by simp [z]), List.filter_nil, two, e1]
        unfold aft
        rw [if_pos (by omega)]
        dsimp only
        have h1 := mn_c g1 (r1 - 0)
        have h2 := mn_c r2 (g2 + g1 - mn g1 (r1 - 0))
        ext <;> dsimp only <;> omega
    · rename_i h h'
      by_cases z : g1 - s1 = 0
      · rw [List.filter_cons, if_neg (by simp [z]), List.filter_nil, nil]
        ext <;> dsimp only <;> omega
      · rw [List.filter_cons, if_pos (by simp [z]), List.filter_nil, one]
        unfold aft
        split
        · dsimp only
          have h1 := mn_c (g1 - s1) (r1 - s1)
          have h2 := mn_c r2 (s2 + (g1 - s1) - mn (g1 - s1) (r1 - s1))
          ext <;> dsimp only <;> omega
        · dsimp only
          have h1 := mn_c (0 - (g1 - s1)) s1
          have h2 := mx_c 0 (s2 + (g1 - s1) + mn (0 - (g1 - s1)) s1)
          ext <;> dsimp only <;> omega
theorem w_eq {w a b : Int} (hw : 0 < w) : w * a = w * b ↔ a = b := by
  constructor
  · exact Int.eq_of_mul_eq_mul_left (by omega)
  · intro h
    rw [h]
theorem w_lt {w a b : Int} (hw : 0 < w) : w * a < w * b ↔ a < b := Int.mul_lt_mul_left hw
theorem w_le {w a b : Int} (hw : 0 < w) : w * a ≤ w * b ↔ a ≤ b := Int.mul_le_mul_left hw
theorem w_z {w a : Int} (hw : 0 < w) : w * a = 0 ↔ a = 0 := by
  have := w_eq (a := a) (b := 0) hw
  rw [Int.mul_zero] at this
  exact this
theorem nz_sc {w : Int} (hw : 0 < w) (l : List Int) : nz (scL w l) = scL w (nz l) := by
  unfold nz scL
  rw [List.filter_map]
  congr 1
  refine List.filter_congr fun x _ => ?_
  show (!decide (w * x = 0)) = !decide (x = 0)
  rw [decide_eq_decide.mpr (w_z hw)]
theorem few_sc {w : Int} (hw : 0 < w) (R S G : Two) : few (sc w R) (sc w S) (sc w G) = scL w (few R S G) := by
  unfold few
  rw [← nz_sc hw]
  congr 1
  unfold few0 sc scL
  dsimp only
  have e1 := w_lt (a := S.2) (b := G.2) hw
  have e2 := w_lt (a := G.2) (b := S.2) hw
  by_cases h : S.2 < G.2
  · rw [if_pos h, if_pos (e1.mpr h)]
    simp only [List.map_cons, List.map_nil, Int.mul_sub, Int.mul_add]
  · rw [if_neg h, if_neg (fun z => h (e1.mp z))]
    by_cases h2 : S.2 > G.2
    · rw [if_pos h2, if_pos (e2.mpr h2)]
      simp only [List.map_cons, List.map_nil, Int.mul_sub, Int.mul_add]
    · rw [if_neg h2, if_neg (fun z => h2 (e2.mp z))]
      simp only [List.map_cons, List.map_nil, Int.mul_sub, Int.mul_add]
theorem ok_sc {w : Int} (hw : 0 < w) {R S : Two} (h : Ok R S) : Ok (sc w R) (sc w S) := by
  obtain ⟨h1, h2, h3, h4⟩ := h
  exact ⟨Int.mul_nonneg (by omega) h1, (w_le hw).mpr h2, Int.mul_nonneg (by omega) h3, (w_le hw).mpr h4⟩
/-! ### turns for an effect -/
def toOne (size place : Int) : List Int := if size = 0 then [] else if place = 0 ∨ place = size then [if place > 0 then size else 0 - size] else if place + place ≤ size then [0 - size, place] else [size, place - size]
def diffs : Int → List Int → List Int
  | _, [] => []
  | h, s :: r => if s = h then diffs h r else (s - h) :: diffs s r
def stops (size : Int) (e : Eff) : List Int :=
  if e.1 = e.1 - e.2.1 ∨ e.1 = size - e.2.2 + e.1 then [e.1 - e.2.1 + (size - e.2.2 + e.1) - e.1] else if e.1 ≥ 0 then [e.1 - e.2.1, size - e.2.2 + e.1] else [size - e.2.2 + e.1, e.1 - e.2.1]
def tFor (size : Int) (e : Eff) : List Int := if e.2.1 = e.2.2 then toOne size e.2.1 else diffs 0 (stops size e ++ [e.1])
def numEff (size : Int) : Int := size + 1 + size * (size + 1) * (2 * size + 1) / 6
theorem toOne_sc {w : Int} (hw : 0 < w) (size place : Int) : toOne (w * size) (w * place) = scL w (toOne size place) := by
  unfold toOne
  by_cases h : size = 0
  · rw [if_pos h, if_pos ((w_z hw).mpr h)]
    rfl
  rw [if_neg h, if_neg (fun z => h ((w_z hw).mp z))]
  by_cases h1 : place = 0 ∨ place = size
  · rw [if_pos h1, if_pos (h1.imp (w_z hw).mpr (w_eq hw).mpr)]
    have e := w_lt (a := 0) (b := place) hw
    rw [Int.mul_zero] at e
    by_cases h2 : place > 0
    · rw [if_pos h2, if_pos (e.mpr h2)]
      rfl
    · rw [if_neg h2, if_neg (fun z => h2 (e.mp z))]
      show [0 - w * size] = [w * (0 - size)]
      rw [Int.mul_sub, Int.mul_zero]
  · rw [if_neg h1, if_neg (fun z => h1 (z.imp (w_z hw).mp (w_eq hw).mp))]
    have e := w_le (a := place + place) (b := size) hw
    rw [Int.mul_add] at e
    by_cases h2 : place + place ≤ size
    · rw [if_pos h2, if_pos (e.mpr h2)]
      show [0 - w * size, w * place] = [w * (0 - size), w * place]
      rw [Int.mul_sub, Int.mul_zero]
    · rw [if_neg h2, if_neg (fun z => h2 (e.mp z))]
      show [w * size, w * place - w * size] = [w * size, w * (place - size)]
      rw [Int.mul_sub]
theorem diffs_sc {w : Int} (hw : 0 < w) : ∀ (l : List Int) (h : Int), diffs (w * h) (scL w l) = scL w (diffs h l)
  | [], _ => rfl
  | s :: r, h => by
    show (if w * s = w * h then diffs (w * h) (scL w r) else (w * s - w * h) :: diffs (w * s) (scL w r)) = scL w (if s = h then diffs h r else (s - h) :: diffs s r)
    by_cases e : s = h
    · rw [if_pos e, if_pos ((w_eq hw).mpr e)]
      exact diffs_sc hw r h
    · rw [if_neg e, if_neg (fun z => e ((w_eq hw).mp z)), diffs_sc hw r s, ← Int.mul_sub]
      rfl
theorem tFor_sc {w : Int} (hw : 0 < w) (size : Int) (e : Eff) : tFor (w * size) (scE w e) = scL w (tFor size e) := by
  obtain ⟨s, l, u⟩ := e
  unfold tFor scE
  dsimp only
  by_cases h : l = u
  · rw [if_pos h, if_pos ((w_eq hw).mpr h)]
    exact toOne_sc hw size l
  rw [if_neg h, if_neg (fun z => h ((w_eq hw).mp z))]
  have e1 := diffs_sc hw (stops size (s, l, u) ++ [s]) 0
  rw [Int.mul_zero] at e1
  rw [← e1]
  congr 1
  unfold scL
  rw [List.map_append]
  congr 1
  unfold stops
  dsimp only
  have c1 : w * s = w * s - w * l ↔ s = s - l := by
    rw [← Int.mul_sub]
    exact w_eq hw
  have c2 : w * s = w * size - w * u + w * s ↔ s = size - u + s := by
    rw [← Int.mul_sub, ← Int.mul_add]
    exact w_eq hw
  have c3 := w_le (a := 0) (b := s) hw
  rw [Int.mul_zero] at c3
  by_cases h1 : s = s - l ∨ s = size - u + s
  · rw [if_pos h1, if_pos (h1.imp c1.mpr c2.mpr)]
    simp only [List.map_cons, List.map_nil, Int.mul_sub, Int.mul_add]
  · rw [if_neg h1, if_neg (fun z => h1 (z.imp c1.mp c2.mp))]
    by_cases h2 : s ≥ 0
    · rw [if_pos h2, if_pos (c3.mpr h2)]
      simp only [List.map_cons, List.map_nil, Int.mul_sub, Int.mul_add]
    · rw [if_neg h2, if_neg (fun z => h2 (c3.mp z))]
      simp only [List.map_cons, List.map_nil, Int.mul_sub, Int.mul_add]
theorem valid_sc {w : Int} (hw : 0 < w) {size : Int} {e : Eff} (h : Valid size e) : Valid (w * size) (scE w e) := by
  obtain ⟨s, l, u⟩ := e
  obtain ⟨h1, h2, h3, h4, h5⟩ := h
  unfold scE
  dsimp only at *
  refine ⟨Int.mul_nonneg (by omega) h1, (w_le hw).mpr h2, (w_le hw).mpr h3, fun z => ?_, fun z => ?_⟩
  · show w * s = 0
    rw [h4 ((w_eq hw).mp z), Int.mul_zero]
  · obtain ⟨a, b⟩ := h5 ((w_lt hw).mp z)
    refine ⟨?_, (w_le hw).mpr b⟩
    show w * u - w * size ≤ w * s
    rw [← Int.mul_sub]
    exact (w_le hw).mpr a
/-! ### the number of effects -/
theorem six (n : Nat) : ∃ k : Int, (n : Int) * ((n : Int) + 1) * (2 * (n : Int) + 1) = 6 * k := by
  induction n with
  | zero => exact ⟨0, by simp⟩
  | succ n ih =>
    obtain ⟨k, hk⟩ := ih
    refine ⟨k + ((n : Int) + 1) * ((n : Int) + 1), ?_⟩
    have e : ((n + 1 : Nat) : Int) = (n : Int) + 1 := by omega
    rw [e]
    generalize (n : Int) = m at hk ⊢
    simp only [Int.add_mul, Int.mul_add, Int.mul_one, Int.one_mul, Int.mul_assoc] at hk ⊢
    have c : m * (2 * m) = 2 * (m * m) := by rw [Int.mul_left_comm]
    have c2 : m * (2 * (m * m)) = 2 * (m * (m * m)) := by rw [Int.mul_left_comm]
    have c3 : m * (m * 2) = 2 * (m * m) := by rw [Int.mul_comm m 2, c]
    rw [c, c2] at hk
    rw [c, c2, c3]
    omega
theorem numEff_six {n : Int} (h : 0 ≤ n) : 6 * numEff n = 6 * (n + 1) + n * (n + 1) * (2 * n + 1) := by
  obtain ⟨k, hk⟩ := six n.toNat
  have e : (n.toNat : Int) = n := by omega
  rw [e] at hk
  unfold numEff
  rw [hk, Int.mul_ediv_cancel_left _ (by decide)]
  omega
/-! ### all lists -/
def sa (l : List Int) : Int := (l.map fun x => (x.natAbs : Int)).sum
def keyLt (a b : List Int) : Bool :=
  if (a.length : Int) < b.length then true else if (a.length : Int) = b.length then (if sa a < sa b then true else if sa a = sa b then decide (a < b) else false) else false
def nums (m : Int) : List Int := nz ((List.range (m + 1 - (0 - m)).toNat).map fun i => (0 - m) + ((i : Nat) : Int))
def pairsL (rows : List (List Int)) (m : Int) : List (List Int × Int) := rows.flatMap fun r => (nums m).map fun n => (r, n)
def lastL (m : Int) : Nat → List (List Int)
  | 0 => [[]]
  | k + 1 => (pairsL (lastL m k) m).map fun p => p.1 ++ [p.2]
def listsL (m : Int) : Nat → List (List Int)
  | 0 => [[]]
  | k + 1 => listsL m k ++ lastL m (k + 1)
def effStep (size : Int) (p : Two) (t : Int) : Two := (mx 0 (mn size (p.1 + t)), mx 0 (mn size (p.2 + t)))
def effPair (size : Int) (ts : List Int) : Two := ts.foldl (effStep size) (0, size)
def lawEff (size : Int) (ts : List Int) : Eff := (if (effPair size ts).1 < (effPair size ts).2 then ts.sum else 0, (effPair size ts).1, (effPair size ts).2)
abbrev Dt := List (Eff × List Int)
def getD (d : Dt) (e : Eff) : Option (List Int) := (d.find? fun p => decide (p.1 = e)).map (·.2)
def putD (d : Dt) (e : Eff) (t : List Int) : Dt := if (d.any fun p => decide (p.1 = e)) = true then d.map (fun p => if p.1 = e then (p.1, t) else p) else d ++ [(e, t)]
def stepE (size : Int) (d : Dt) (t : List Int) : Dt := match getD d (lawEff size t) with
  | none => putD d (lawEff size t) t
  | some b => if keyLt t b = true then putD d (lawEff size t) t else d
def bestE (size : Int) : Dt := (listsL size 3).foldl (stepE size) []
def effGood (size : Int) : Bool := decide (numEff size = (bestE size).length) && (bestE size).all fun p => decide (Valid size p.1) && decide (tFor size p.1 = p.2) && p.2.all fun x => decide (x.natAbs < 64)
theorem effGood_all : effGood 0 = true ∧ effGood 1 = true ∧ effGood 2 = true ∧ effGood 3 = true := by decide +kernel
theorem effGood_of {size : Int} (h0 : 0 ≤ size) (h3 : size ≤ 3) : effGood size = true := by
  obtain ⟨a, b, c, d⟩ := effGood_all
  have : size = 0 ∨ size = 1 ∨ size = 2 ∨ size = 3 := by omega
  rcases this with e | e | e | e <;> subst e <;> assumption
def tick1 (R : Two) (S : Two) (t : Int) : Two := (S.1 + (mx 0 (mn R.1 (S.1 + t)) - S.1), mx 0 (mn R.2 (S.2 + t - (mx 0 (mn R.1 (S.1 + t)) - S.1))))
def ticked (R S : Two) (ts : List Int) : Two := ts.foldl (tick1 R) S
def stepG (R S G : Two) (b : Option (List Int)) (t : List Int) : Option (List Int) := if (match b with | none => true | some b => keyLt t b) = true ∧ ticked R S t = G then some t else b
def bestG (R S G : Two) : Option (List Int) := (listsL (R.1 + R.2) 2).foldl (stepG R S G) none
def stepG' (R S G : Two) (b : Option (List Int)) (t : List Int) : Option (List Int) := if ticked R S t = G then (match b with | none => some t | some c => if keyLt t c = true then some t else b) else b
theorem stepG_eq (R S G : Two) (b : Option (List Int)) (t : List Int) : stepG R S G b t = stepG' R S G b t := by
  unfold stepG stepG'
  cases b with
  | none => simp
  | some c =>
    dsimp only
    by_cases h : ticked R S t = G
    · simp [h]
    · simp [h]
def goalGood (r1 r2 : Nat) : Bool := (List.range (r1 + 1)).all fun s1 => (List.range (r2 + 1)).all fun s2 => (List.range (r1 + 1)).all fun g1 => (List.range (r2 + 1)).all fun g2 =>
  decide ((listsL ((r1 : Int) + (r2 : Int)) 2).foldl (stepG' ((r1 : Int), (r2 : Int)) ((s1 : Int), (s2 : Int)) ((g1 : Int), (g2 : Int))) none = some (few ((r1 : Int), (r2 : Int)) ((s1 : Int), (s2 : Int)) ((g1 : Int), (g2 : Int))))
end K36
set_option Elab.async false
set_option maxRecDepth 100000
set_option maxHeartbeats 4000000
set_option linter.all false
namespace K36
theorem goal_0 : goalGood 0 0 = true ∧ goalGood 0 1 = true ∧ goalGood 0 2 = true ∧ goalGood 0 3 = true := by decide +kernel
theorem goal_1 : goalGood 1 0 = true ∧ goalGood 1 1 = true ∧ goalGood 1 2 = true ∧ goalGood 1 3 = true := by decide +kernel
theorem goal_2 : goalGood 2 0 = true ∧ goalGood 2 1 = true ∧ goalGood 2 2 = true := by decide +kernel
theorem goal_23 : goalGood 2 3 = true := by decide +kernel
theorem goal_3 : goalGood 3 0 = true ∧ goalGood 3 1 = true := by decide +kernel
theorem goal_32 : goalGood 3 2 = true := by decide +kernel
theorem goal_33 : goalGood 3 3 = true := by decide +kernel
theorem goal_all : ∀ r1 r2 : Nat, r1 < 4 → r2 < 4 → goalGood r1 r2 = true := by
  obtain ⟨a0, a1, a2, a3⟩ := goal_0
  obtain ⟨b0, b1, b2, b3⟩ := goal_1
  obtain ⟨c0, c1, c2⟩ := goal_2
  obtain ⟨d0, d1⟩ := goal_3
  have c3 := goal_23
  have d2 := goal_32
  have d3 := goal_33
  intro r1 r2 h1 h2
  have e1 : r1 = 0 ∨ r1 = 1 ∨ r1 = 2 ∨ r1 = 3 := by omega
  have e2 : r2 = 0 ∨ r2 = 1 ∨ r2 = 2 ∨ r2 = 3 := by omega
  rcases e1 with e | e | e | e
  · subst e
    rcases e2 with f | f | f | f
    · subst f
      exact a0
    · subst f
      exact a1
    · subst f
      exact a2
    · subst f
      exact a3
  · subst e
    rcases e2 with f | f | f | f
    · subst f
      exact b0
    · subst f
      exact b1
    · subst f
      exact b2
    · subst f
      exact b3
  · subst e
    rcases e2 with f | f | f | f
    · subst f
      exact c0
    · subst f
      exact c1
    · subst f
      exact c2
    · subst f
      exact c3
  · subst e
    rcases e2 with f | f | f | f
    · subst f
      exact d0
    · subst f
      exact d1
    · subst f
      exact d2
    · subst f
      exact d3
theorem bestG_few {R S G : Two} (h0 : 0 ≤ R.1) (h1 : R.1 ≤ 3) (h2 : 0 ≤ R.2) (h3 : R.2 ≤ 3) (hS : Ok R S) (hG : Ok R G) : bestG R S G = some (few R S G) := by
  obtain ⟨r1, r2⟩ := R
  obtain ⟨s1, s2⟩ := S
  obtain ⟨g1, g2⟩ := G
  obtain ⟨a1, a2, a3, a4⟩ := hS
  obtain ⟨b1, b2, b3, b4⟩ := hG
  dsimp only at *
  have q := goal_all r1.toNat r2.toNat (by omega) (by omega)
  unfold goalGood at q
  rw [List.all_eq_true] at q
  have q1 := q s1.toNat (List.mem_range.mpr (by omega))
  rw [List.all_eq_true] at q1
  have q2 := q1 s2.toNat (List.mem_range.mpr (by omega))
  rw [List.all_eq_true] at q2
  have q3 := q2 g1.toNat (List.mem_range.mpr (by omega))
  rw [List.all_eq_true] at q3
  have q4 := of_decide_eq_true (q3 g2.toNat (List.mem_range.mpr (by omega)))
  rw [show ((r1.toNat : Nat) : Int) = r1 by omega, show ((r2.toNat : Nat) : Int) = r2 by omega, show ((s1.toNat : Nat) : Int) = s1 by omega, show ((s2.toNat : Nat) : Int) = s2 by omega, show ((g1.toNat : Nat) : Int) = g1 by omega, show ((g2.toNat : Nat) : Int) = g2 by omega] at q4
  unfold bestG
  have e : stepG (r1, r2) (s1, s2) (g1, g2) = stepG' (r1, r2) (s1, s2) (g1, g2) := by
    funext b t
    exact stepG_eq _ _ _ _ _
  rw [e]
  exact q4
end K36
set_option Elab.async false
set_option maxRecDepth 100000
set_option maxHeartbeats 4000000
set_option linter.all false
namespace K36
def zd (h : Int) (st : List Int) : List Int := ((st.zip (h :: st)).filter fun p => !decide (p.1 = p.2)).map fun p => p.1 - p.2
theorem zd_diffs : ∀ (st : List Int) (h : Int), zd h st = diffs h st
  | [], _ => rfl
  | s :: r, h => by
    have ih := zd_diffs r s
    unfold zd at ih ⊢
    show (List.map (fun p : Int × Int => p.1 - p.2) (List.filter (fun p => !decide (p.1 = p.2)) ((s, h) :: r.zip (s :: r)))) = if s = h then diffs h r else (s - h) :: diffs s r
    rw [List.filter_cons]
    by_cases e : s = h
    · rw [if_neg (by simp [e]), if_pos e, ih, e]
    · rw [if_pos (by simp [e]), if_neg e, List.map_cons, ih]
def lo : List Int → Int
  | [] => 0
  | s :: r => mn s (lo r)
def hi : List Int → Int
  | [] => 0
  | s :: r => mx s (hi r)
theorem lo_mem : ∀ st : List Int, lo st ∈ (0 : Int) :: st
  | [] => List.mem_singleton.mpr rfl
  | s :: r => by
    have ih := lo_mem r
    rcases mn_c s (lo r) with ⟨_, e⟩ | ⟨_, e⟩
    · rw [show lo (s :: r) = lo r from e]
      rcases List.mem_cons.mp ih with h | h
      · rw [h]
        exact List.mem_cons_self
      · exact List.mem_cons_of_mem _ (List.mem_cons_of_mem _ h)
    · rw [show lo (s :: r) = s from e]
      exact List.mem_cons_of_mem _ List.mem_cons_self
theorem lo_le : ∀ (st : List Int), ∀ y ∈ (0 : Int) :: st, lo st ≤ y
  | [], y, h => by
    have : y = 0 := by simpa using h
    rw [this]
    exact Int.le_refl _
  | s :: r, y, h => by
    have ih := lo_le r
    have c := mn_c s (lo r)
    have e : lo (s :: r) = mn s (lo r) := rfl
    rcases List.mem_cons.mp h with q | q
    · have := ih 0 List.mem_cons_self
      omega
    · rcases List.mem_cons.mp q with q | q
      · omega
      · have := ih y (List.mem_cons_of_mem _ q)
        omega
theorem hi_mem : ∀ st : List Int, hi st ∈ (0 : Int) :: st
  | [] => List.mem_singleton.mpr rfl
  | s :: r => by
    have ih := hi_mem r
    rcases mx_c s (hi r) with ⟨_, e⟩ | ⟨_, e⟩
    · rw [show hi (s :: r) = hi r from e]
      rcases List.mem_cons.mp ih with h | h
      · rw [h]
        exact List.mem_cons_self
      · exact List.mem_cons_of_mem _ (List.mem_cons_of_mem _ h)
    · rw [show hi (s :: r) = s from e]
      exact List.mem_cons_of_mem _ List.mem_cons_self
theorem hi_ge : ∀ (st : List Int), ∀ y ∈ (0 : Int) :: st, y ≤ hi st
  | [], y, h => by
    have : y = 0 := by simpa using h
    rw [this]
    exact Int.le_refl _
  | s :: r, y, h => by
    have ih := hi_ge r
    have c := mx_c s (hi r)
    have e : hi (s :: r) = mx s (hi r) := rfl
    rcases List.mem_cons.mp h with q | q
    · have := ih 0 List.mem_cons_self
      omega
    · rcases List.mem_cons.mp q with q | q
      · omega
      · have := ih y (List.mem_cons_of_mem _ q)
        omega
def cands (b a s : Int) : List (List Int) := [[s], [a, s], [0 - b, s], [a, 0 - b, s], [0 - b, a, s]]
def stepZ (b a : Int) (best : Option (List Int)) (st : List Int) : Option (List Int) := if lo st = 0 - b ∧ hi st = a then (match best with | none => some (zd 0 st) | some c => if keyLt (zd 0 st) c = true then some (zd 0 st) else best) else best
section
variable {b a : Int} {best : Option (List Int)} {st c : List Int}
theorem stepZ_no (h : ¬ (lo st = 0 - b ∧ hi st = a)) : stepZ b a best st = best := if_neg h
theorem stepZ_first (h : lo st = 0 - b ∧ hi st = a) : stepZ b a none st = some (diffs 0 st) := by
  unfold stepZ
  rw [if_pos h, zd_diffs]
theorem stepZ_new (h : lo st = 0 - b ∧ hi st = a) (k : keyLt (diffs 0 st) c = true) : stepZ b a (some c) st = some (diffs 0 st) := by
  unfold stepZ
  rw [if_pos h, zd_diffs]
  exact if_pos k
theorem stepZ_keep (k : keyLt (diffs 0 st) c = false) : stepZ b a (some c) st = some c := by
  unfold stepZ
  rw [zd_diffs]
  by_cases h : lo st = 0 - b ∧ hi st = a
  · rw [if_pos h]
    exact if_neg (by rw [k]; simp)
  · exact if_neg h
end
theorem keyLt_self (t : List Int) : keyLt t t = false := by
  unfold keyLt
  rw [if_neg (Int.lt_irrefl _), if_pos rfl, if_neg (Int.lt_irrefl _), if_pos rfl]
  exact decide_eq_false (List.lt_irrefl t)
theorem keyLt_long {t u : List Int} (h : u.length < t.length) : keyLt t u = false := by
  unfold keyLt
  rw [if_neg (by omega), if_neg (by omega)]
theorem df_eq {h s : Int} {r : List Int} (e : s = h) : diffs h (s :: r) = diffs h r := if_pos e
theorem df_ne {h s : Int} {r : List Int} (e : s ≠ h) : diffs h (s :: r) = (s - h) :: diffs s r := if_neg e
theorem df_nil {h : Int} : diffs h [] = [] := rfl
theorem lo1 (x : Int) : lo [x] = mn x 0 := rfl
theorem lo2 (x y : Int) : lo [x, y] = mn x (mn y 0) := rfl
theorem lo3 (x y z : Int) : lo [x, y, z] = mn x (mn y (mn z 0)) := rfl
theorem hi1 (x : Int) : hi [x] = mx x 0 := rfl
theorem hi2 (x y : Int) : hi [x, y] = mx x (mx y 0) := rfl
theorem hi3 (x y z : Int) : hi [x, y, z] = mx x (mx y (mx z 0)) := rfl
theorem great {size b a s : Int} (h0 : 0 ≤ b) (h1 : 0 ≤ a) (h2 : 0 - b ≤ s) (h3 : s ≤ a) (h4 : a + b < size) : (cands b a s).foldl (stepZ b a) none = some (tFor size (s, b + s, size - a + s)) := by
  unfold cands
  simp only [List.foldl_cons, List.foldl_nil]
  unfold tFor stops
  dsimp only
  rw [if_neg (by omega)]
  by_cases c1 : s = 0 - b
  · rw [if_pos (.inl (by omega))]
    have e0 : s - (b + s) + (size - (size - a + s) + s) - s = a := by omega
    rw [e0]
    show _ = some (diffs 0 [a, s])
    by_cases c2 : a = 0
    · have o1 : lo [s] = 0 - b ∧ hi [s] = a := by simp only [lo1, lo2, lo3, hi1, hi2, hi3, mn, mx]; constructor <;> (repeat' split) <;> omega
      rw [stepZ_first o1]
      have d1 : diffs 0 [a, s] = diffs 0 [s] := df_eq c2
      rw [stepZ_keep (by rw [d1]; exact keyLt_self _)]
      have d3 : diffs 0 [0 - b, s] = diffs 0 [s] := by
        by_cases z : b = 0
        · rw [df_eq (by omega)]
        · rw [df_ne (by omega), df_eq (by omega), df_ne (by omega), df_nil, df_nil]
          congr 1
          omega
      rw [stepZ_keep (by rw [d3]; exact keyLt_self _)]
      have d4 : diffs 0 [a, 0 - b, s] = diffs 0 [s] := by rw [df_eq c2, d3]
      rw [stepZ_keep (by rw [d4]; exact keyLt_self _)]
      have d5 : keyLt (diffs 0 [0 - b, a, s]) (diffs 0 [s]) = false := by
        by_cases z : b = 0
        · rw [df_eq (by omega), d1]
          exact keyLt_self _
        · refine keyLt_long ?_
          rw [df_ne (show 0 - b ≠ 0 by omega), df_ne (show a ≠ 0 - b by omega), df_ne (show s ≠ a by omega), df_ne (show s ≠ 0 by omega)]
          simp [df_nil]
      rw [stepZ_keep d5, d1]
    · have o1 : ¬ (lo [s] = 0 - b ∧ hi [s] = a) := by
        rw [hi1]
        have := mx_c s 0
        omega
      have o2 : lo [a, s] = 0 - b ∧ hi [a, s] = a := by simp only [lo1, lo2, lo3, hi1, hi2, hi3, mn, mx]; constructor <;> (repeat' split) <;> omega
      rw [stepZ_no o1, stepZ_first o2]
      have d2 : diffs 0 [a, s] = [a - 0, s - a] := by rw [df_ne c2, df_ne (by omega), df_nil]
      have o3 : ¬ (lo [0 - b, s] = 0 - b ∧ hi [0 - b, s] = a) := by
        rw [hi2]
        have := mx_c s 0
        have := mx_c (0 - b) (mx s 0)
        omega
      rw [stepZ_no o3]
      have d4 : diffs 0 [a, 0 - b, s] = diffs 0 [a, s] := by rw [df_ne c2, df_ne (by omega), df_eq (by omega), d2, df_nil, c1]
      rw [stepZ_keep (by rw [d4]; exact keyLt_self _)]
      have d5 : keyLt (diffs 0 [0 - b, a, s]) (diffs 0 [a, s]) = false := by
        by_cases z : b = 0
        · rw [df_eq (by omega)]
          exact keyLt_self _
        · refine keyLt_long ?_
          rw [d2, df_ne (show 0 - b ≠ 0 by omega), df_ne (show a ≠ 0 - b by omega), df_ne (show s ≠ a by omega)]
          simp [df_nil]
      rw [stepZ_keep d5]
  by_cases c2 : s = a
  · rw [if_pos (.inr (by omega))]
    have e0 : s - (b + s) + (size - (size - a + s) + s) - s = 0 - b := by omega
    rw [e0]
    show _ = some (diffs 0 [0 - b, s])
    by_cases c3 : b = 0
    · have o1 : lo [s] = 0 - b ∧ hi [s] = a := by simp only [lo1, lo2, lo3, hi1, hi2, hi3, mn, mx]; constructor <;> (repeat' split) <;> omega
      have d3 : diffs 0 [0 - b, s] = diffs 0 [s] := df_eq (by omega)
      rw [stepZ_first o1, d3]
      have d1 : diffs 0 [s] = [s - 0] := by rw [df_ne (by omega), df_nil]
      have d2 : diffs 0 [a, s] = diffs 0 [s] := by rw [df_ne (by omega), df_eq (by omega), d1, df_nil, c2]
      rw [stepZ_keep (by rw [d2]; exact keyLt_self _), stepZ_keep (by rw [d3]; exact keyLt_self _)]
      have d4 : keyLt (diffs 0 [a, 0 - b, s]) (diffs 0 [s]) = false := by
        refine keyLt_long ?_
        rw [d1, df_ne (by omega), df_ne (by omega), df_ne (by omega)]
        simp [df_nil]
      have d5 : diffs 0 [0 - b, a, s] = diffs 0 [s] := by rw [df_eq (by omega), d2]
      rw [stepZ_keep d4, stepZ_keep (by rw [d5]; exact keyLt_self _)]
    · have o1 : ¬ (lo [s] = 0 - b ∧ hi [s] = a) := by
        rw [lo1]
        have := mn_c s 0
        omega
      have o2 : ¬ (lo [a, s] = 0 - b ∧ hi [a, s] = a) := by
        rw [lo2]
        have := mn_c s 0
        have := mn_c a (mn s 0)
        omega
      have o3 : lo [0 - b, s] = 0 - b ∧ hi [0 - b, s] = a := by simp only [lo1, lo2, lo3, hi1, hi2, hi3, mn, mx]; constructor <;> (repeat' split) <;> omega
      rw [stepZ_no o1, stepZ_no o2, stepZ_first o3]
      have d3 : diffs 0 [0 - b, s] = [0 - b - 0, s - (0 - b)] := by rw [df_ne (by omega), df_ne (by omega), df_nil]
      have d4 : keyLt (diffs 0 [a, 0 - b, s]) (diffs 0 [0 - b, s]) = false := by
        by_cases z : a = 0
        · rw [df_eq z]
          exact keyLt_self _
        · refine keyLt_long ?_
          rw [d3, df_ne (by omega), df_ne (by omega), df_ne (by omega)]
          simp [df_nil]
      have d5 : diffs 0 [0 - b, a, s] = diffs 0 [0 - b, s] := by rw [d3, df_ne (by omega), df_ne (by omega), df_eq (by omega), df_nil, c2]
      rw [stepZ_keep d4, stepZ_keep (by rw [d5]; exact keyLt_self _)]
  · rw [if_neg (by omega)]
    have e1 : s - (b + s) = 0 - b := by omega
    have e2 : size - (size - a + s) + s = a := by omega
    rw [e1, e2]
    have o1 : ¬ (lo [s] = 0 - b ∧ hi [s] = a) := by
      rw [lo1, hi1]
      have := mn_c s 0
      have := mx_c s 0
      omega
    rw [stepZ_no o1]
    by_cases c3 : b = 0
    · rw [if_pos (by omega)]
      show _ = some (diffs 0 [0 - b, a, s])
      have o2 : lo [a, s] = 0 - b ∧ hi [a, s] = a := by simp only [lo1, lo2, lo3, hi1, hi2, hi3, mn, mx]; constructor <;> (repeat' split) <;> omega
      have o3 : ¬ (lo [0 - b, s] = 0 - b ∧ hi [0 - b, s] = a) := by
        rw [hi2]
        have := mx_c s 0
        have := mx_c (0 - b) (mx s 0)
        omega
      have d5 : diffs 0 [0 - b, a, s] = diffs 0 [a, s] := df_eq (by omega)
      have d2 : diffs 0 [a, s] = [a - 0, s - a] := by rw [df_ne (by omega), df_ne (by omega), df_nil]
      have d4 : keyLt (diffs 0 [a, 0 - b, s]) (diffs 0 [a, s]) = false := by
        refine keyLt_long ?_
        rw [d2, df_ne (by omega), df_ne (by omega), df_ne (by omega)]
        simp [df_nil]
      rw [stepZ_first o2, stepZ_no o3, stepZ_keep d4, stepZ_keep (by rw [d5]; exact keyLt_self _), d5]
    have o2 : ¬ (lo [a, s] = 0 - b ∧ hi [a, s] = a) := by
      rw [lo2]
      have := mn_c s 0
      have := mn_c a (mn s 0)
      omega
    rw [stepZ_no o2]
    by_cases c4 : a = 0
    · rw [if_neg (by omega)]
      show _ = some (diffs 0 [a, 0 - b, s])
      have o3 : lo [0 - b, s] = 0 - b ∧ hi [0 - b, s] = a := by simp only [lo1, lo2, lo3, hi1, hi2, hi3, mn, mx]; constructor <;> (repeat' split) <;> omega
      have d4 : diffs 0 [a, 0 - b, s] = diffs 0 [0 - b, s] := df_eq c4
      have d3 : diffs 0 [0 - b, s] = [0 - b - 0, s - (0 - b)] := by rw [df_ne (by omega), df_ne (by omega), df_nil]
      have d5 : keyLt (diffs 0 [0 - b, a, s]) (diffs 0 [0 - b, s]) = false := by
        refine keyLt_long ?_
        rw [d3, df_ne (by omega), df_ne (by omega), df_ne (by omega)]
        simp [df_nil]
      rw [stepZ_first o3, stepZ_keep (by rw [d4]; exact keyLt_self _), stepZ_keep d5, d4]
    have o3 : ¬ (lo [0 - b, s] = 0 - b ∧ hi [0 - b, s] = a) := by
      rw [hi2]
      have := mx_c s 0
      have := mx_c (0 - b) (mx s 0)
      omega
    have o4 : lo [a, 0 - b, s] = 0 - b ∧ hi [a, 0 - b, s] = a := by simp only [lo1, lo2, lo3, hi1, hi2, hi3, mn, mx]; constructor <;> (repeat' split) <;> omega
    have o5 : lo [0 - b, a, s] = 0 - b ∧ hi [0 - b, a, s] = a := by simp only [lo1, lo2, lo3, hi1, hi2, hi3, mn, mx]; constructor <;> (repeat' split) <;> omega
    have d4 : diffs 0 [a, 0 - b, s] = [a - 0, 0 - b - a, s - (0 - b)] := by rw [df_ne (by omega), df_ne (by omega), df_ne (by omega), df_nil]
    have d5 : diffs 0 [0 - b, a, s] = [0 - b - 0, a - (0 - b), s - a] := by rw [df_ne (by omega), df_ne (by omega), df_ne (by omega), df_nil]
    have s4 : sa [a - 0, 0 - b - a, s - (0 - b)] = a + (a + b) + (s + b) := by
      simp only [sa, List.map_cons, List.map_nil, List.sum_cons, List.sum_nil]
      omega
    have s5 : sa [0 - b - 0, a - (0 - b), s - a] = b + (a + b) + (a - s) := by
      simp only [sa, List.map_cons, List.map_nil, List.sum_cons, List.sum_nil]
      omega
    rw [stepZ_no o3, stepZ_first o4]
    have len : (([0 - b - 0, a - (0 - b), s - a] : List Int).length : Int) = ([a - 0, 0 - b - a, s - (0 - b)] : List Int).length := rfl
    by_cases c5 : s ≥ 0
    · rw [if_pos c5]
      show _ = some (diffs 0 [0 - b, a, s])
      have k : keyLt (diffs 0 [0 - b, a, s]) (diffs 0 [a, 0 - b, s]) = true := by
        rw [d4, d5]
        unfold keyLt
        rw [if_neg (by rw [len]; exact Int.lt_irrefl _), if_pos len, s4, s5]
        by_cases c6 : s = 0
        · rw [if_neg (by omega), if_pos (by omega)]
          refine decide_eq_true ?_
          rw [List.cons_lt_cons_iff]
          left
          omega
        · rw [if_pos (by omega)]
      rw [stepZ_new o5 k]
    · rw [if_neg c5]
      show _ = some (diffs 0 [a, 0 - b, s])
      have k : keyLt (diffs 0 [0 - b, a, s]) (diffs 0 [a, 0 - b, s]) = false := by
        rw [d4, d5]
        unfold keyLt
        rw [if_neg (by rw [len]; exact Int.lt_irrefl _), if_pos len, s4, s5, if_neg (by omega), if_neg (by omega)]
      rw [stepZ_keep k]
end K36
set_option Elab.async false
set_option pp.maxSteps 1200
set_option linter.all false
set_option maxRecDepth 100000
set_option maxHeartbeats 4000000
namespace K36
open PySem L2 My
theorem at0 {α : Type} {a : α} {l : List α} : atI (a :: l) 0 = some a := atI_nat (j := 0) rfl
theorem at1 {α : Type} {a b : α} {l : List α} : atI (a :: b :: l) 1 = some b := atI_nat (j := 1) rfl
theorem at2 {α : Type} {a b c : α} {l : List α} : atI (a :: b :: c :: l) 2 = some c := atI_nat (j := 2) rfl
theorem _root_.My.Raised.mono {C : Addr} {v : V} {H H1 : Hp} {E : XK} (e : Ex H H1) (h : Raised C v H E) : Raised C v H1 E := fun d H' hd e' hx => h d H' (Evl.fresh_back e hd) (e.trans e') hx
/-- a tuple of two ints -/
abbrev t2 (S : Two) : List V := [.int S.1, .int S.2]
/-- a tuple of three ints -/
abbrev t3 (e : Eff) : List V := [.int e.1, .int e.2.1, .int e.2.2]
theorem mapI_get {ts : List Int} {i : Nat} {x : V} (h : (ts.map V.int)[i]? = some x) : ∃ t, ts[i]? = some t ∧ x = V.int t := by
  rw [List.getElem?_map] at h
  cases e : ts[i]? with
  | none =>
    rw [e] at h
    cases h
  | some t =>
    rw [e] at h
    exact ⟨t, rfl, (Option.some.inj h).symm⟩
theorem take_next {α : Type} {l : List α} {i : Nat} {x : α} (h : l[i]? = some x) : l.take (i + 1) = l.take i ++ [x] := by
  rw [List.take_add_one, h]
  rfl
def sp_need_from (C : Addr) : Sp := fun vs H Q E => ∃ n l : Int, vs = [.int n, .int l] ∧ (l ≤ n → Q .non H) ∧ (n < l → Raised C (.int n) H E)
def sp_need_rooms (K : PySem.W.Frag) (C : Addr) : Sp := fun vs H Q E => ∃ (a : Addr) (R : Two), vs = [.ref a] ∧ SqT K H a (t2 R) ∧ (0 ≤ R.1 → 0 ≤ R.2 → Q .non H) ∧ (R.1 < 0 → Raised C (.int R.1) H E) ∧ (0 ≤ R.1 → R.2 < 0 → Raised C (.int R.2) H E)
def sp_need_scrolls (K : PySem.W.Frag) (C : Addr) : Sp := fun vs H Q E => ∃ (a b : Addr) (R S : Two), vs = [.ref a, .ref b] ∧ SqT K H a (t2 R) ∧ SqT K H b (t2 S) ∧ (Ok R S → Evl.RetV .non H Q) ∧
  (¬ (0 ≤ S.1 ∧ S.1 ≤ R.1) → Raised C (.int S.1) H E) ∧ (0 ≤ S.1 → S.1 ≤ R.1 → ¬ (0 ≤ S.2 ∧ S.2 ≤ R.2) → Raised C (.int S.2) H E)
def sp_check_effect (K : PySem.W.Frag) (C : Addr) : Sp := fun vs H Q E => ∃ (size : Int) (a : Addr) (e : Eff), vs = [.int size, .ref a] ∧ SqT K H a (t3 e) ∧ (Valid size e → Q .non H) ∧ (¬ Valid size e → Raised C (.ref a) H E)
def sp_need_effect (K : PySem.W.Frag) (C C' : Addr) : Sp := fun vs H Q E => ∃ (size : Int) (a : Addr) (e : Eff), vs = [.int size, .ref a] ∧ SqT K H a (t3 e) ∧ (0 ≤ size → Valid size e → Q .non H) ∧ (size < 0 → Raised C (.int size) H E) ∧ (0 ≤ size → ¬ Valid size e → Raised C' (.ref a) H E)
def sp_after_turn (K : PySem.W.Frag) : Sp := fun vs H Q _ => ∃ (a b : Addr) (R S : Two) (t : Int), vs = [.ref a, .ref b, .int t] ∧ SqT K H a (t2 R) ∧ SqT K H b (t2 S) ∧ New (.tup (t2 (aft R t S))) H Q
def sp_scrolls_after (K : PySem.W.Frag) : Sp := fun vs H Q _ => ∃ (a b c : Addr) (R S : Two) (ts : List Int), vs = [.ref a, .ref b, .ref c] ∧ SqT K H a (t2 R) ∧ SqT K H b (t2 S) ∧ SqL K H c (ts.map V.int) ∧
  ∀ p H', Ex H H' → SqT K H' p (t2 (after R S ts)) → Q (.ref p) H'
/-- turned_by: what all three arguments must be -/
def spTurns (K : PySem.W.Frag) (C : Addr) (res : Two → Two → List Int → Two) : Sp := fun vs H Q E => ∃ (a b c : Addr) (R S : Two) (ts : List Int), vs = [.ref a, .ref b, .ref c] ∧ SqT K H a (t2 R) ∧ SqT K H b (t2 S) ∧ SqL K H c (ts.map V.int) ∧
  (0 ≤ R.1 → 0 ≤ R.2 → Ok R S → New (.tup (t2 (res R S ts))) H Q) ∧ (R.1 < 0 → Raised C (.int R.1) H E) ∧ (0 ≤ R.1 → R.2 < 0 → Raised C (.int R.2) H E) ∧
  (0 ≤ R.1 → 0 ≤ R.2 → ¬ (0 ≤ S.1 ∧ S.1 ≤ R.1) → Raised C (.int S.1) H E) ∧ (0 ≤ R.1 → 0 ≤ R.2 → 0 ≤ S.1 → S.1 ≤ R.1 → ¬ (0 ≤ S.2 ∧ S.2 ≤ R.2) → Raised C (.int S.2) H E)
abbrev sp_turned_by (K : PySem.W.Frag) (C : Addr) : Sp := spTurns K C after
section
variable {w : World} {K : PySem.W.Frag} {mg : Str → Option Value} {base : Heap}
theorem ok_need_from (T : Txt K mg) : FnOk PR w K mg base (L2.CX PR w) 3 T.a_need_from T.d_need_from ["number", "least"] (sp_need_from T.c_InvalidNumber) := by
  refine T.f_need_from.okX sc_need_from (fun vs H Q E h => ?_) (fun cdv A outer s H vs Q E hr h => ?_)
  · obtain ⟨n, l, rfl, _⟩ := h
    rfl
  · obtain ⟨n, l, rfl, k1, k2⟩ := h
    refine ⟨_, (pss_one (ps_if (pt_cmpR op_lt (pv 0) (pv 1) (nomark _)) (pss_one (ps_raise rfl (takes_of rfl rfl rfl rfl) (pmk_err (ok_init T) (b_init T) T.e_InvalidNumber (hr.mono (by decide)) (by rfl) T.g_InvalidNumber (pa_cons (pv 0) pa_nil)))) pss_nil)), ?_⟩
    refine ⟨_, rfl, _, rfl, _, _, rfl, rfl, _, rfl, ?_⟩
    refine ifB (fun c => ?_) (fun c => ?_)
    · exact ⟨_, rfl, _, rfl, k2 (of_decide_eq_true c)⟩
    · exact k1 (by have := of_decide_eq_false c; omega)
theorem ok_need_rooms (T : Txt K mg) : FnOk PR w K mg base (L2.CX PR w) 4 T.a_need_rooms T.d_need_rooms ["rooms"] (sp_need_rooms K T.c_InvalidNumber) := by
  refine T.f_need_rooms.okX sc_need_rooms (fun vs H Q E h => ?_) (fun cdv A outer s H vs Q E hr h => ?_)
  · obtain ⟨a, R, rfl, _⟩ := h
    rfl
  · obtain ⟨a, R, rfl, ha, k0, k1, k2⟩ := h
    refine ⟨_, (pss_one (ps_for (passes_of rfl) rfl (pi_tup (pv 0)) (pg_name (i := 1) sc_need_rooms.nd rfl (by first | exact Or.inl rfl | exact Or.inr rfl)) (pss_one (ps_expr (pe_call (ok_need_from T) (hr.mono (by decide)) (by rfl) T.g_need_from T.f_need_from.kp (b_need_from T) .nil passX (pa_cons (pv 1) (pa_cons pe_int pa_nil))))))), ?_⟩
    refine ⟨_, rfl, a, rfl, ⟨_, ha⟩, for_tup (K := K) (a := a) (xs := t2 R) (fun i σ H' => ∃ v, σ = [some (.ref a), v] ∧ H' = H ∧ (0 < i → 0 ≤ R.1) ∧ (1 < i → 0 ≤ R.2)) ⟨_, rfl, rfl, fun z => by omega, fun z => by omega⟩ (fun i σ H' _ ⟨_, _, e, _⟩ => by rw [e]; exact ha) ?_ ?_⟩
    · rintro i x σ H' hi ⟨v, rfl, rfl, h1, h2⟩
      match i, hi with
      | 0, hi =>
        have e : V.int R.1 = x := Option.some.inj hi
        subst e
        refine ⟨_, rfl, R.1, 0, rfl, fun c => ⟨_, rfl, rfl, fun _ => c, fun z => by omega⟩, fun c => k1 c⟩
      | 1, hi =>
        have e : V.int R.2 = x := Option.some.inj hi
        subst e
        have h0 := h1 (by omega)
        refine ⟨_, rfl, R.2, 0, rfl, fun c => ⟨_, rfl, rfl, fun _ => h0, fun _ => c⟩, fun c => k2 h0 c⟩
    · rintro σ H' ⟨v, rfl, rfl, h1, h2⟩
      exact k0 (h1 (by show 0 < 2; omega)) (h2 (by show 1 < 2; omega))
theorem ok_need_scrolls (T : Txt K mg) : FnOk PR w K mg base (L2.CX PR w) 3 T.a_need_scrolls T.d_need_scrolls ["rooms", "scrolls"] (sp_need_scrolls K T.c_InvalidNumber) := by
  refine T.f_need_scrolls.okX sc_need_scrolls (fun vs H Q E h => ?_) (fun cdv A outer s H vs Q E hr h => ?_)
  · obtain ⟨a, b, R, S, rfl, _⟩ := h
    rfl
  · obtain ⟨a, b, R, S, rfl, ha, hb, k0, k1, k2⟩ := h
    refine ⟨_, (pss_one (ps_for (passes_of rfl) rfl (RZ.pi_zipA (by rfl) T.z_zip (pa_cons (pv 0) (pa_cons (pv 1) pa_nil))) (pg_tup rfl (pgs_cons (pg_name (i := 2) sc_need_scrolls.nd rfl (by first | exact Or.inl rfl | exact Or.inr rfl)) (pgs_cons (pg_name (i := 3) sc_need_scrolls.nd rfl (by first | exact Or.inl rfl | exact Or.inr rfl)) pgs_nil))) (pss_one (ps_if (PW.pt (pw_or (pt_cmpR op_lt (pv 3) pe_int (nomark _)) (pw_or1 (pt_cmpR op_gt (pv 3) (pv 2) (nomark _))))) (pss_one (ps_raise rfl (takes_of rfl rfl rfl rfl) (pmk_err (ok_init T) (b_init T) T.e_InvalidNumber (hr.mono (by decide)) (by rfl) T.g_InvalidNumber (pa_cons (pv 3) pa_nil)))) pss_nil)))), ?_⟩
    refine ⟨_, rfl, _, rfl, a, b, _, _, rfl, .inr ⟨ha, hb, RZ.for_zipT (K := K) (a := a) (b := b) (xs := t2 R) (ys := t2 S) rfl (fun i σ H' => ∃ u v, σ = [some (.ref a), some (.ref b), u, v] ∧ Ex H H' ∧ (0 < i → 0 ≤ S.1 ∧ S.1 ≤ R.1) ∧ (1 < i → 0 ≤ S.2 ∧ S.2 ≤ R.2))
      ⟨_, _, rfl, Evl.Ex.refl _, fun z => by omega, fun z => by omega⟩ (fun i σ H' ⟨_, _, _, e, _⟩ => ⟨Evl.ex_t e ha, Evl.ex_t e hb⟩) ?_ ?_⟩⟩
    · rintro i x y p σ H' hx hy ⟨u, v, rfl, e, h1, h2⟩ np
      have e2 : Ex H (upd H' p (.tup [x, y])) := e.trans (Evl.Ex.new np)
      have hp : upd H' p (.tup [x, y]) p = some (.tup [x, y]) := upd_same
      generalize upd H' p (.tup [x, y]) = H2 at e2 hp ⊢
      refine ⟨_, _, rfl, sqT hp, rfl, _, _, rfl, _, _, rfl, rfl, ?_⟩
      match i, hx, hy with
      | 0, hx, hy =>
        have ex : V.int R.1 = x := Option.some.inj hx
        have ey : V.int S.1 = y := Option.some.inj hy
        subst ex
        subst ey
        refine ⟨_, rfl, _, _, rfl, rfl, _, rfl, ?_⟩
        refine ifB (fun c => ?_) (fun c => ?_)
        · exact ⟨_, rfl, _, rfl, (k1 (by have := of_decide_eq_true c; omega)).mono e2⟩
        · have c' := of_decide_eq_false c
          refine ⟨_, rfl, _, rfl, _, _, rfl, rfl, _, rfl, ?_⟩
          refine ifB (fun d => ?_) (fun d => ?_)
          · exact ⟨_, rfl, _, rfl, (k1 (by have := of_decide_eq_true d; omega)).mono e2⟩
          · have d' := of_decide_eq_false d
            exact ⟨_, _, rfl, e2, fun _ => by omega, fun z => by omega⟩
      | 1, hx, hy =>
        have ex : V.int R.2 = x := Option.some.inj hx
        have ey : V.int S.2 = y := Option.some.inj hy
        subst ex
        subst ey
        obtain ⟨g1, g2⟩ := h1 (by omega)
        refine ⟨_, rfl, _, _, rfl, rfl, _, rfl, ?_⟩
        refine ifB (fun c => ?_) (fun c => ?_)
        · exact ⟨_, rfl, _, rfl, (k2 g1 g2 (by have := of_decide_eq_true c; omega)).mono e2⟩
        · have c' := of_decide_eq_false c
          refine ⟨_, rfl, _, rfl, _, _, rfl, rfl, _, rfl, ?_⟩
          refine ifB (fun d => ?_) (fun d => ?_)
          · exact ⟨_, rfl, _, rfl, (k2 g1 g2 (by have := of_decide_eq_true d; omega)).mono e2⟩
          · have d' := of_decide_eq_false d
            exact ⟨_, _, rfl, e2, fun _ => ⟨g1, g2⟩, fun _ => by omega⟩
    · rintro σ H' ⟨u, v, rfl, e, h1, h2⟩
      have g1 := h1 (by show 0 < 2; omega)
      have g2 := h2 (by show 1 < 2; omega)
      exact k0 ⟨g1.1, g1.2, g2.1, g2.2⟩ H' e
theorem ok_check_effect (T : Txt K mg) : FnOk PR w K mg base (L2.CX PR w) 3 T.a_check_effect T.d_check_effect ["size", "effect"] (sp_check_effect K T.c_InvalidValue) := by
  refine T.f_check_effect.okX sc_check_effect (fun vs H Q E h => ?_) (fun cdv A outer s H vs Q E hr h => ?_)
  · obtain ⟨size, a, e, rfl, _⟩ := h
    rfl
  · obtain ⟨size, a, ⟨s, l, u⟩, rfl, ha, k1, k2⟩ := h
    refine ⟨_, (pss_cons (ps_asg (pv 1) (pg_tup rfl (pgs_cons (pg_name (i := 2) sc_check_effect.nd rfl (by first | exact Or.inl rfl | exact Or.inr rfl)) (pgs_cons (pg_name (i := 3) sc_check_effect.nd rfl (by first | exact Or.inl rfl | exact Or.inr rfl)) (pgs_cons (pg_name (i := 4) sc_check_effect.nd rfl (by first | exact Or.inl rfl | exact Or.inr rfl)) pgs_nil))))) (pss_cons (ps_if (pt_cut (pt_not (pt_chain3 op_le op_le op_le pe_int (pv 3) (pv 4) (pv 0)))) (pss_one (ps_raise rfl (takes_of rfl rfl rfl rfl) (pmk_err (ok_init T) (b_init T) T.e_InvalidValue (hr.mono (by decide)) (by rfl) T.g_InvalidValue (pa_cons (pv 1) pa_nil)))) pss_nil) (pss_one (ps_if (pt_cut (PW.pt (pw_or (pt_cut (PW.pt (pw_and (pt_cmpR op_eq (pv 3) (pv 4) (nomark _)) (pw_and1 (pt_cmpR op_ne (pv 2) pe_int (nomark _)))))) (pw_or1 (pt_cut (PW.pt (pw_and (pt_cmpR op_lt (pv 3) (pv 4) (nomark _)) (pw_and1 (pt_not (pt_chain op_le op_le (pe_op op_sub (pv 4) (pv 0)) (pv 2) (pv 3))))))))))) (pss_one (ps_raise rfl (takes_of rfl rfl rfl rfl) (pmk_err (ok_init T) (b_init T) T.e_InvalidValue (hr.mono (by decide)) (by rfl) T.g_InvalidValue (pa_cons (pv 1) pa_nil)))) pss_nil)))), ?_⟩
    refine ⟨_, rfl, _, _, rfl, ha, rfl, _, _, rfl, _, _, rfl, _, _, rfl, rfl, ?_⟩
    refine ⟨fun b H' => H' = H ∧ b = !decide (0 ≤ l ∧ l ≤ u ∧ u ≤ size), ?_, ?_⟩
    · refine ⟨_, rfl, _, _, rfl, rfl, _, rfl, ?_⟩
      refine ifB (fun c => ?_) (fun c => ?_)
      · have c' : 0 ≤ l := of_decide_eq_true c
        refine ⟨_, rfl, _, _, rfl, rfl, _, rfl, ?_⟩
        refine ifB (fun d => ?_) (fun d => ?_)
        · have d' : l ≤ u := of_decide_eq_true d
          refine ⟨_, rfl, _, _, rfl, rfl, _, rfl, rfl, ?_⟩
          congr 1
          exact decide_eq_decide.mpr ⟨fun h => ⟨c', d', h⟩, fun h => h.2.2⟩
        · have d' : ¬ l ≤ u := of_decide_eq_false d
          refine ⟨_, rfl, rfl, ?_⟩
          rw [decide_eq_false (fun h => d' h.2.1)]
      · have c' : ¬ 0 ≤ l := of_decide_eq_false c
        refine ⟨_, rfl, rfl, ?_⟩
        rw [decide_eq_false (fun h => c' h.1)]
    rintro b H' ⟨rfl, eb⟩
    refine ifB (fun c => ?_) (fun c => ?_)
    · refine ⟨_, rfl, _, rfl, k2 fun v => ?_⟩
      rw [eb, decide_eq_true ⟨v.1, v.2.1, v.2.2.1⟩] at c
      cases c
    · rw [eb] at c
      have c' : 0 ≤ l ∧ l ≤ u ∧ u ≤ size := by
        have : decide (0 ≤ l ∧ l ≤ u ∧ u ≤ size) = true := by
          cases q : decide (0 ≤ l ∧ l ≤ u ∧ u ≤ size) with
          | true => rfl
          | false =>
            rw [q] at c
            cases c
        exact of_decide_eq_true this
      refine ⟨fun b H'' => H'' = H' ∧ b = decide ((l = u ∧ s ≠ 0) ∨ (l < u ∧ ¬ (u - size ≤ s ∧ s ≤ l))), ?_, ?_⟩
      · refine ⟨fun b H'' => H'' = H' ∧ b = decide (l = u ∧ s ≠ 0), ?_, ?_⟩
        · refine ⟨_, rfl, _, rfl, rfl, _, rfl, ?_⟩
          refine ifB (fun d => ?_) (fun d => ?_)
          · have d' : l = u := by simpa using d
            refine ⟨_, rfl, rfl, _, rfl, rfl, ?_⟩
            by_cases g : s = 0
            · rw [decide_eq_true (congrArg V.int g), decide_eq_false (by omega)]
              rfl
            · rw [decide_eq_false (fun q => g (by simpa using q)), decide_eq_true (by omega)]
              rfl
          · have d' : ¬ l = u := by simpa using d
            exact ⟨rfl, by rw [decide_eq_false (by omega)]⟩
        rintro b1 H1 ⟨rfl, e1⟩
        refine ifB (fun d => ?_) (fun d => ?_)
        · rw [e1] at d
          have d' := of_decide_eq_true d
          exact ⟨rfl, by rw [decide_eq_true (by omega)]⟩
        · rw [e1] at d
          have d' := of_decide_eq_false d
          refine ⟨fun b H'' => H'' = H1 ∧ b = decide (l < u ∧ ¬ (u - size ≤ s ∧ s ≤ l)), ?_, ?_⟩
          · refine ⟨_, rfl, _, rfl, _, _, rfl, rfl, _, rfl, ?_⟩
            refine ifB (fun f => ?_) (fun f => ?_)
            · have f' : l < u := of_decide_eq_true f
              refine ⟨_, rfl, _, rfl, _, _, rfl, rfl, _, rfl, _, _, rfl, rfl, _, rfl, ?_⟩
              refine ifB (fun g => ?_) (fun g => ?_)
              · have g' : u - size ≤ s := of_decide_eq_true g
                refine ⟨_, rfl, _, _, rfl, rfl, _, rfl, rfl, ?_⟩
                show (!decide (s ≤ l)) = _
                by_cases j : s ≤ l
                · rw [decide_eq_true j, decide_eq_false (by omega)]
                  rfl
                · rw [decide_eq_false j, decide_eq_true (by omega)]
                  rfl
              · have g' : ¬ u - size ≤ s := of_decide_eq_false g
                refine ⟨_, rfl, rfl, ?_⟩
                rw [decide_eq_true (by omega)]
                rfl
            · have f' : ¬ l < u := of_decide_eq_false f
              exact ⟨rfl, by rw [decide_eq_false (by omega)]⟩
          · rintro b2 H2 ⟨rfl, e2⟩
            refine ⟨rfl, ?_⟩
            rw [e2]
            exact decide_eq_decide.mpr ⟨fun h => .inr h, fun h => h.resolve_left d'⟩
      · rintro b1 H1 ⟨rfl, e1⟩
        refine ifB (fun d => ?_) (fun d => ?_)
        · rw [e1] at d
          have d' := of_decide_eq_true d
          refine ⟨_, rfl, _, rfl, k2 fun v => ?_⟩
          obtain ⟨v1, v2, v3, v4, v5⟩ := v
          dsimp only at v4 v5
          omega
        · rw [e1] at d
          have d' := of_decide_eq_false d
          refine k1 ⟨c'.1, c'.2.1, c'.2.2, fun h => ?_, fun h => ?_⟩
          · dsimp only at h ⊢
            omega
          · dsimp only at h ⊢
            omega
theorem ok_need_effect (T : Txt K mg) : FnOk PR w K mg base (L2.CX PR w) 4 T.a_need_effect T.d_need_effect ["size", "effect"] (sp_need_effect K T.c_InvalidNumber T.c_InvalidValue) := by
  refine T.f_need_effect.okX sc_need_effect (fun vs H Q E h => ?_) (fun cdv A outer s H vs Q E hr h => ?_)
  · obtain ⟨size, a, e, rfl, _⟩ := h
    rfl
  · obtain ⟨size, a, e, rfl, ha, k1, k2, k3⟩ := h
    refine ⟨_, (pss_cons (ps_expr (pe_call (ok_need_from T) (hr.mono (by decide)) (by rfl) T.g_need_from T.f_need_from.kp (b_need_from T) .nil passX (pa_cons (pv 0) (pa_cons pe_int pa_nil)))) (pss_one (ps_expr (pe_call (ok_check_effect T) (hr.mono (by decide)) (by rfl) T.g_check_effect T.f_check_effect.kp (b_check_effect T) .nil passX (pa_cons (pv 0) (pa_cons (pv 1) pa_nil)))))), ?_⟩
    refine ⟨_, rfl, size, 0, rfl, fun c => ?_, k2⟩
    exact ⟨_, rfl, _, rfl, size, a, e, rfl, ha, fun v => k1 c v, fun v => k3 c v⟩
theorem ok_after_turn (T : Txt K mg) : FnOk PR w K mg base CX0 1 T.a_after_turn T.d_after_turn ["rooms", "scrolls", "turn"] (sp_after_turn K) := by
  refine T.f_after_turn.ok sc_after_turn (fun vs H Q E h => ?_) (fun cdv A outer s H vs Q E hr h => ?_)
  · obtain ⟨a, b, R, S, t, rfl, _⟩ := h
    rfl
  · obtain ⟨a, b, R, S, t, rfl, ha, hb, k⟩ := h
    refine ⟨_, (pss_cons (ps_asg (pv 1) (pg_tup rfl (pgs_cons (pg_name (i := 3) sc_after_turn.nd rfl (by first | exact Or.inl rfl | exact Or.inr rfl)) (pgs_cons (pg_name (i := 4) sc_after_turn.nd rfl (by first | exact Or.inl rfl | exact Or.inr rfl)) pgs_nil)))) (pss_cons (ps_if (pt_cmpR op_gt (pv 2) pe_int (nomark _)) (pss_cons (ps_set (i := 5) sc_after_turn.nd rfl (by first | exact Or.inl rfl | exact Or.inr rfl) (pe_callB (call_min2 rfl) (by rfl) T.z_min (by decide +kernel) (pa_cons (pv 2) (pa_cons (pe_op op_sub (pe_ix ix_tup (pv 0) pe_int (fun _ _ => rfl)) (pv 3)) pa_nil)))) (pss_one (ps_ret (pe_tupG (pa_cons (pe_op op_add (pv 3) (pv 5)) (pa_cons (pe_callB (call_min2 rfl) (by rfl) T.z_min (by decide +kernel) (pa_cons (pe_ix ix_tup (pv 0) pe_int (fun _ _ => rfl)) (pa_cons (pe_op op_sub (pe_op op_add (pv 4) (pv 2)) (pv 5)) pa_nil))) pa_nil)))))) pss_nil) (pss_cons (ps_set (i := 5) sc_after_turn.nd rfl (by first | exact Or.inl rfl | exact Or.inr rfl) (pe_callB (call_min2 rfl) (by rfl) T.z_min (by decide +kernel) (pa_cons (pe_op op_sub pe_int (pv 2)) (pa_cons (pv 3) pa_nil)))) (pss_one (ps_ret (pe_tupG (pa_cons (pe_op op_sub (pv 3) (pv 5)) (pa_cons (pe_callB (call_max2 rfl) (by rfl) T.z_max (by decide +kernel) (pa_cons pe_int (pa_cons (pe_op op_add (pe_op op_add (pv 4) (pv 2)) (pv 5)) pa_nil))) pa_nil)))))))), ?_⟩
    refine ⟨_, rfl, _, _, rfl, hb, rfl, _, _, rfl, _, _, rfl, rfl, ?_⟩
    refine ⟨_, rfl, _, _, rfl, rfl, _, rfl, ?_⟩
    refine ifB (fun c => ?_) (fun c => ?_)
    · refine ⟨_, rfl, _, rfl, _, _, _, _, rfl, rfl, ha, at0, _, rfl, _, _, rfl, rfl, _, _, rfl, ?_⟩
      refine ⟨_, rfl, _, rfl, _, _, rfl, rfl, _, rfl, _, _, _, _, rfl, rfl, ha, at1, _, rfl, _, rfl, _, _, rfl, rfl, _, rfl, _, _, rfl, rfl, _, _, rfl, (by show 2 ≤ sizeLine; decide), fun p1 H1 n1 e1 h1 => ?_⟩
      refine k p1 H1 n1 e1 ?_
      have e : aft R t S = (S.1 + mn t (R.1 - S.1), mn R.2 (S.2 + t - mn t (R.1 - S.1))) := if_pos (of_decide_eq_true c)
      rw [e]
      exact h1
    · refine ⟨_, rfl, _, _, rfl, rfl, _, rfl, _, _, rfl, ?_⟩
      refine ⟨_, rfl, _, rfl, _, _, rfl, rfl, _, rfl, _, rfl, _, _, rfl, rfl, _, rfl, _, _, rfl, rfl, _, _, rfl, (by show 2 ≤ sizeLine; decide), fun p2 H2 n2 e2 h2 => ?_⟩
      refine k p2 H2 n2 e2 ?_
      have e : aft R t S = (S.1 - mn (0 - t) S.1, mx 0 (S.2 + t + mn (0 - t) S.1)) := if_neg (of_decide_eq_false c)
      rw [e]
      exact h2
theorem ok_scrolls_after (T : Txt K mg) : FnOk PR w K mg base CX0 2 T.a_scrolls_after T.d_scrolls_after ["rooms", "scrolls", "turns"] (sp_scrolls_after K) := by
  refine T.f_scrolls_after.ok sc_scrolls_after (fun vs H Q E h => ?_) (fun cdv A outer s H vs Q E hr h => ?_)
  · obtain ⟨a, b, c, R, S, ts, rfl, _⟩ := h
    rfl
  · obtain ⟨a, b, c, R, S, ts, rfl, ha, hb, hc, k⟩ := h
    refine ⟨_, (pss_cons (ps_set (i := 3) sc_scrolls_after.nd rfl (by first | exact Or.inl rfl | exact Or.inr rfl) (pv 1)) (pss_cons (ps_for PassesOwn.never rfl (pi_list (pv 2)) (pg_name (i := 4) sc_scrolls_after.nd rfl (by first | exact Or.inl rfl | exact Or.inr rfl)) (pss_one (ps_set (i := 3) sc_scrolls_after.nd rfl (by first | exact Or.inl rfl | exact Or.inr rfl) (pe_call (ok_after_turn T) (hr.mono (by decide)) (by rfl) T.g_after_turn T.f_after_turn.kp (b_after_turn T) .nil pass0 (pa_cons (pv 0) (pa_cons (pv 3) (pa_cons (pv 4) pa_nil))))))) (pss_one (ps_ret (pv 3))))), ?_⟩
    refine ⟨_, rfl, ?_⟩
    refine ⟨_, rfl, c, rfl, ⟨_, hc⟩, for_list (K := K) (a := c) (xs := ts.map V.int) (fun i σ H' => ∃ (p : Addr) (v : Option V), σ = [some (.ref a), some (.ref b), some (.ref c), some (.ref p), v] ∧ Ex H H' ∧ SqT K H' p (t2 (after R S (ts.take i))))
      ⟨b, _, rfl, Evl.Ex.refl _, hb⟩ (fun i σ H' _ ⟨_, _, _, e, _⟩ => Evl.ex_l e hc) ?_ ?_⟩
    · rintro i x σ H' hi ⟨p, v, rfl, e, hp⟩
      obtain ⟨t, ht, rfl⟩ := mapI_get hi
      refine ⟨_, rfl, _, rfl, _, rfl, a, p, R, _, t, rfl, Evl.ex_t e ha, hp, fun q H2 n2 e2 h2 => ?_⟩
      refine ⟨q, _, rfl, e.trans e2, ?_⟩
      rw [take_next ht, after_app]
      exact sqT h2
    · rintro σ H' ⟨p, v, rfl, e, hp⟩
      refine ⟨_, rfl, ?_⟩
      rw [List.length_map, List.take_of_length_le (Nat.le_refl _)] at hp
      exact k p H' e hp
theorem ok_turned_by (T : Txt K mg) : FnOk PR w K mg base (L2.CX PR w) 5 T.a_turned_by T.d_turned_by ["rooms", "scrolls", "turns"] (sp_turned_by K T.c_InvalidNumber) := by
  refine T.f_turned_by.okX sc_turned_by (fun vs H Q E h => ?_) (fun cdv A outer s H vs Q E hr h => ?_)
  · obtain ⟨a, b, c, R, S, ts, rfl, _⟩ := h
    rfl
  · obtain ⟨a, b, c, R, S, ts, rfl, ha, hb, hc, k, k1, k2, k3, k4⟩ := h
    refine ⟨_, (pss_cons (ps_expr (pe_call (ok_need_rooms T) (hr.mono (by decide)) (by rfl) T.g_need_rooms T.f_need_rooms.kp (b_need_rooms T) .nil passX (pa_cons (pv 0) pa_nil))) (pss_cons (ps_expr (pe_call (ok_need_scrolls T) (hr.mono (by decide)) (by rfl) T.g_need_scrolls T.f_need_scrolls.kp (b_need_scrolls T) .nil passX (pa_cons (pv 0) (pa_cons (pv 1) pa_nil)))) (pss_cons (ps_asg (pe_call (ok_scrolls_after T) (hr.mono (by decide)) (by rfl) T.g_scrolls_after T.f_scrolls_after.kp (b_scrolls_after T) .nil pass0 (pa_cons (pv 0) (pa_cons (pv 1) (pa_cons (pv 2) pa_nil)))) (pg_tup rfl (pgs_cons (pg_name (i := 3) sc_turned_by.nd rfl (by first | exact Or.inl rfl | exact Or.inr rfl)) (pgs_cons (pg_name (i := 4) sc_turned_by.nd rfl (by first | exact Or.inl rfl | exact Or.inr rfl)) pgs_nil)))) (pss_one (ps_ret (pe_tupG (pa_cons (pv 3) (pa_cons (pv 4) pa_nil)))))))), ?_⟩
    refine ⟨_, rfl, a, R, rfl, ha, fun r1 r2 => ?_, k1, k2⟩
    refine ⟨_, rfl, _, rfl, a, b, R, S, rfl, ha, hb, fun ok H1 e1 => ?_, k3 r1 r2, k4 r1 r2⟩
    refine ⟨_, rfl, _, rfl, _, rfl, a, b, c, R, S, ts, rfl, Evl.ex_t e1 ha, Evl.ex_t e1 hb, Evl.ex_l e1 hc, fun p H2 e2 hp => ?_⟩
    refine ⟨_, _, rfl, hp, rfl, _, _, rfl, _, _, rfl, rfl, ?_⟩
    refine ⟨_, rfl, _, rfl, (by show 2 ≤ sizeLine; decide), fun p3 H3 n3 e3 h3 => ?_⟩
    exact k r1 r2 ok p3 H3 (Evl.fresh_back (e1.trans e2) n3) (e1.trans (e2.trans e3)) h3
end
end K36
set_option Elab.async false
set_option pp.maxSteps 1200
set_option linter.all false
set_option maxRecDepth 100000
set_option maxHeartbeats 4000000
namespace K36
open PySem L2 My
/-! ### the jug -/
/-- a jug of draws stands at j, of which at most B were mixed -/
def Jug (H : Hp) (j : Addr) (B : Int) : Prop := ∃ x y z : Int, H j = some (.lst [.int x, .int y, .int z]) ∧ 0 ≤ y ∧ y < 2 ^ 200 ∧ 0 ≤ z ∧ z ≤ B
theorem Jug.ex {H H' : Hp} {j : Addr} {B : Int} (e : Ex H H') : Jug H j B → Jug H' j B
  | ⟨x, y, z, h, r⟩ => ⟨x, y, z, e _ _ h, r⟩
theorem Jug.mono {H : Hp} {j : Addr} {B B' : Int} (h : B ≤ B') : Jug H j B → Jug H j B'
  | ⟨x, y, z, h1, h2, h3, h4, h5⟩ => ⟨x, y, z, h1, h2, h3, h4, by omega⟩
theorem mix_lt {m z : Int} (h0 : 0 ≤ m) (h1 : m < 2 ^ 200) (z0 : 0 ≤ z) (z1 : z ≤ 2 ^ 60) : (m + 13466917 * (z + 1)).natAbs < 2 ^ 210 := by omega
def sp__law_pour : Sp := fun vs H Q _ => ∃ (j : Addr) (many B : Int), vs = [.ref j, .int many] ∧ Jug H j B ∧ B ≤ 2 ^ 60 ∧ 0 < many ∧ many < 2 ^ 200 ∧
  ∀ (n : Int) (H' : Hp), 0 ≤ n → n < many → Exj j H H' → Jug H' j (B + 1) → Q (.int n) H'
section
variable {P : Program} {w : World} {K : PySem.W.Frag} {mg : Str → Option Value} {base : Heap}
theorem ok__law_pour (T : Txt K mg) : FnOk P w K mg base CX0 1 T.a__law_pour T.d__law_pour ["_law_jug_here", "_law_many"] sp__law_pour := by
  refine T.f__law_pour.ok sc__law_pour (fun vs H Q E h => ?_) (fun cdv A outer s H vs Q E hr h => ?_)
  · obtain ⟨j, many, B, rfl, _⟩ := h
    rfl
  · obtain ⟨j, many, B, rfl, ⟨x, y, z, hj, y0, y1, z0, z1⟩, hB, m0, m1, k⟩ := h
    refine ⟨_, (pss_cons (ps_if (pt_cmpR op_gt (pe_ix ix_list (pv 0) pe_int (fun _ _ => rfl)) pe_int (nomark _)) (pss_cons (ps_set (i := 2) sc__law_pour.nd rfl (by first | exact Or.inl rfl | exact Or.inr rfl) (pe_op op_mod (pe_callTy call_int1 (by rfl) T.z_int (by decide +kernel) (pa_cons (pe_ix ix_list (pv 0) pe_int (fun _ _ => rfl)) pa_nil)) (pv 1))) (pss_cons (ps_asg (pe_op op_fdivW (pe_ix ix_list (pv 0) pe_int (fun _ _ => rfl)) (pv 1)) (pg_sub (pv 0) pe_int set_list)) (pss_one (ps_ret (pv 2))))) pss_nil) (pss_cons (ps_asg (pe_op op_add (pe_ix ix_list (pv 0) pe_int (fun _ _ => rfl)) pe_int) (pg_sub (pv 0) pe_int set_list)) (pss_cons (ps_set (i := 3) sc__law_pour.nd rfl (by first | exact Or.inl rfl | exact Or.inr rfl) (pe_op op_mod (pe_callTy call_int1 (by rfl) T.z_int (by decide +kernel) (pa_cons (pe_op op_powW (pe_op op_add (pe_ix ix_list (pv 0) pe_int (fun _ _ => rfl)) (pe_op op_mulW pe_int (pe_ix ix_list (pv 0) pe_int (fun _ _ => rfl)))) pe_int) pa_nil)) (pe_op op_add (pe_op op_powW pe_int pe_int) pe_int))) (pss_cons (ps_set (i := 3) sc__law_pour.nd rfl (by first | exact Or.inl rfl | exact Or.inr rfl) (pe_op op_mod (pe_callTy call_int1 (by rfl) T.z_int (by decide +kernel) (pa_cons (pe_op op_powW (pe_op op_add (pv 3) (pe_op op_mulW pe_int (pe_ix ix_list (pv 0) pe_int (fun _ _ => rfl)))) pe_int) pa_nil)) (pe_op op_add (pe_op op_powW pe_int pe_int) pe_int))) (pss_one (ps_ret (pe_op op_mod (pe_op op_fdivW (pv 3) pe_int) (pv 1)))))))), ?_⟩
    have sq : ∀ {H' : Hp} {l : List V}, H' j = some (.lst l) → SqL K H' j l := fun h => sqI h
    have m2 : many.natAbs < 2 ^ 200 := by omega
    -- if _law_jug_here[0] > 0:
    refine ⟨_, rfl, _, _, _, _, rfl, rfl, sq hj, at0, _, _, rfl, rfl, _, rfl, ?_⟩
    refine ite2 (fun c => ?_) (fun c => ?_)
    · -- _law_found = int(_law_jug_here[0]) % _law_many
      refine ⟨_, rfl, _, _, _, _, rfl, rfl, sq hj, at0, .inl ⟨_, rfl, ?_⟩⟩
      refine ⟨_, rfl, _, _, rfl, rfl, m0, ?_⟩
      -- _law_jug_here[0] = _law_jug_here[0] // _law_many
      refine ⟨_, rfl, _, _, _, _, rfl, rfl, sq hj, at0, _, rfl, _, _, rfl, rfl, wide_div m0 m2 (by decide) (by decide), _, rfl, _, _, _, _, rfl, rfl, hj, (show _ = some 0 from rfl), ?_⟩
      -- return _law_found
      refine ⟨_, rfl, ?_⟩
      exact k _ _ (Int.emod_nonneg _ (by omega)) (Int.emod_lt_of_pos _ m0) (Exj.refl _ _).upd ⟨_, y, z, upd_same, y0, y1, z0, by omega⟩
    · -- _law_jug_here[2] = _law_jug_here[2] + 1
      refine ⟨_, rfl, _, _, _, _, rfl, rfl, sq hj, at2, _, _, rfl, rfl, _, rfl, _, _, _, _, rfl, rfl, hj, (show _ = some 2 from rfl), ?_⟩
      have hj1 : upd H j (.lst [.int x, .int y, .int (z + 1)]) j = some (.lst [.int x, .int y, .int (z + 1)]) := upd_same
      have ez : (z + 1).natAbs < 2 ^ 70 := by omega
      have b1 : (y + 24036583 * (z + 1)).natAbs < 2 ^ 210 := by omega
      -- _law_mixed = ..
      refine ⟨_, rfl, _, _, _, _, rfl, rfl, sq hj1, at1, _, rfl, _, _, _, _, rfl, rfl, sq hj1, at2, _, _, rfl, rfl, wide_mul (a := 30) (b := 70) (by decide) ez (by decide) (by decide) (by decide), _, _, rfl, rfl, _, _, rfl, rfl, powW_of (j := 3) b1 (by decide) (by decide), .inl ⟨_, rfl, ?_⟩⟩
      refine ⟨_, _, rfl, rfl, (show CPowW 10 42 by constructor <;> decide +kernel), _, _, rfl, rfl, _, _, rfl, rfl, (show (0 : Int) < 10 ^ (42 : Int).toNat + 63 by decide +kernel), ?_⟩
      -- the first mixture by a letter
      have q0 := Int.emod_nonneg ((y + 24036583 * (z + 1)) ^ (3 : Int).toNat) (show ((10 : Int) ^ (42 : Int).toNat + 63) ≠ 0 by decide +kernel)
      have q1 := Int.emod_lt_of_pos ((y + 24036583 * (z + 1)) ^ (3 : Int).toNat) (show 0 < ((10 : Int) ^ (42 : Int).toNat + 63) by decide +kernel)
      have q2 : ((10 : Int) ^ (42 : Int).toNat + 63) < 2 ^ 200 := by decide +kernel
      have b2 := mix_lt (z := z) q0 (Int.lt_trans q1 q2) z0 (Int.le_trans z1 hB)
      -- _law_mixed = ..
      refine ⟨_, rfl, _, rfl, _, _, _, _, rfl, rfl, sq hj1, at2, _, _, rfl, rfl, wide_mul (a := 30) (b := 70) (by decide) ez (by decide) (by decide) (by decide), _, _, rfl, rfl, _, _, rfl, rfl, powW_of (j := 3) b2 (by decide) (by decide), .inl ⟨_, rfl, ?_⟩⟩
      refine ⟨_, _, rfl, rfl, (show CPowW 10 44 by constructor <;> decide +kernel), _, _, rfl, rfl, _, _, rfl, rfl, (show (0 : Int) < 10 ^ (44 : Int).toNat + 57 by decide +kernel), ?_⟩
      -- return _law_mixed // 1299709 % _law_many
      refine ⟨_, rfl, _, _, rfl, rfl, wide_div (b := 40) (by decide) (by decide) (by decide) (by decide), _, rfl, _, _, rfl, rfl, m0, ?_⟩
      exact k _ _ (Int.emod_nonneg _ (by omega)) (Int.emod_lt_of_pos _ m0) (Exj.refl _ _).upd ⟨x, y, z + 1, upd_same, y0, y1, by omega, by omega⟩
end
def sp__law_jug (K : PySem.W.Frag) : Sp := fun vs H Q _ => ∃ (a : Addr) (ns : List Int) (k : Int), vs = [.ref a, .int k] ∧ SqL K H a (ns.map V.int) ∧ 0 ≤ k ∧ k ≤ 100 ∧ ∀ (p : Addr) (H' : Hp), H p = none → Ex H H' → Jug H' p 0 → Q (.ref p) H'
theorem Jug.some {H : Hp} {j : Addr} {B : Int} : Jug H j B → ∃ o, H j = some o
  | ⟨_, _, _, h, _⟩ => ⟨_, h⟩
theorem Jug.ne {H : Hp} {j p : Addr} {B : Int} (h : Jug H j B) (n : H p = none) : p ≠ j := by
  obtain ⟨o, ho⟩ := h.some
  exact (ne_of_none ho n).symm
theorem _root_.My.Exj.back {j p : Addr} {H H' : Hp} (e : Exj j H H') (n : p ≠ j) (h : H' p = none) : H p = none := by
  cases q : H p with
  | none => rfl
  | some o =>
    rw [e p o n q] at h
    cases h
section
variable {P : Program} {w : World} {K : PySem.W.Frag} {mg : Str → Option Value} {base : Heap}
theorem ok__law_jug (T : Txt K mg) : FnOk P w K mg base CX0 1 T.a__law_jug T.d__law_jug ["_law_script", "_law_k"] (sp__law_jug K) := by
  refine T.f__law_jug.ok sc__law_jug (fun vs H Q E h => ?_) (fun cdv A outer s H vs Q E hr h => ?_)
  · obtain ⟨a, ns, k, rfl, _⟩ := h
    rfl
  · obtain ⟨a, ns, n, rfl, hs, n0, n1, k⟩ := h
    refine ⟨_, (pss_cons (ps_set (i := 2) sc__law_jug.nd rfl (by first | exact Or.inl rfl | exact Or.inr rfl) (pe_cut (pe_ifExp (pt_cmpR op_lt (pv 1) (pe_callB call_len_seq (by rfl) T.z_len PySem.boot_len (pa_cons (pv 0) pa_nil)) (nomark _)) (pe_ix ix_list (pv 0) (pv 1) (fun _ _ => rfl)) pe_int))) (pss_one (ps_ret (pe_lstG (pa_cons (pe_callB (call_max2 rfl) (by rfl) T.z_max (by decide +kernel) (pa_cons pe_int (pa_cons (pe_op op_sub (pv 2) (pe_op op_powW pe_int pe_int)) pa_nil))) (pa_cons (pe_op op_add (pe_op op_add (pe_op op_mulW (pe_op op_mod (pv 2) (pe_op op_add (pe_op op_powW pe_int pe_int) pe_int)) pe_int) (pe_op op_mulW pe_int (pv 1))) pe_int) (pa_cons pe_int pa_nil))))))), ?_⟩
    -- _law_cell = _law_script[_law_k] if _law_k < len(_law_script) else 0
    refine ⟨fun v H' => H' = H ∧ ∃ c : Int, v = .int c, ?_, ?_⟩
    · refine ⟨_, rfl, _, rfl, _, _, rfl, .inl hs, _, _, rfl, rfl, _, rfl, ?_⟩
      refine ifB (fun c => ?_) (fun c => ⟨rfl, _, rfl⟩)
      have c' : n < ((ns.map V.int).length : Int) := of_decide_eq_true c
      rw [List.length_map] at c'
      have hx : ns[n.toNat]? = some (ns[n.toNat]'(by omega)) := List.getElem?_eq_getElem (by omega)
      refine ⟨_, rfl, _, rfl, _, _, _, _, rfl, rfl, hs, at_of (j := n.toNat) (by omega) (by rw [List.getElem?_map, hx]; rfl), rfl, _, rfl⟩
    · rintro v H' ⟨rfl, c, rfl⟩
      have q0 := Int.emod_nonneg c (show ((10 : Int) ^ (39 : Int).toNat + 3) ≠ 0 by decide +kernel)
      have q1 := Int.emod_lt_of_pos c (show 0 < ((10 : Int) ^ (39 : Int).toNat + 3) by decide +kernel)
      have q2 : ((10 : Int) ^ (39 : Int).toNat + 3) < 2 ^ 140 := by decide +kernel
      have b0 : (c % ((10 : Int) ^ (39 : Int).toNat + 3)).natAbs < 2 ^ 140 := by
        have := Int.lt_trans q1 q2
        omega
      refine ⟨_, rfl, _, _, rfl, rfl, (show CPowW 10 18 by constructor <;> decide +kernel), _, _, rfl, rfl, _, _, rfl, _, rfl, _, _, rfl, rfl, (show CPowW 10 39 by constructor <;> decide +kernel), _, _, rfl, rfl, _, _, rfl, rfl, (show (0 : Int) < 10 ^ (39 : Int).toNat + 3 by decide +kernel), _, _, rfl, rfl, wide_mul (b := 10) b0 (by decide) (by decide) (by decide) (by decide), _, rfl, _, _, rfl, rfl, wide_mul (a := 20) (b := 10) (by decide) (by omega) (by decide) (by decide) (by decide), _, _, rfl, rfl, _, _, rfl, rfl, (by show 3 ≤ sizeLine; decide), fun p1 H1 n1 e1 h1 => ?_⟩
      refine k p1 H1 n1 e1 ⟨_, _, _, h1, ?_, ?_, Int.le_refl _, Int.le_refl _⟩
      · show 0 ≤ c % ((10 : Int) ^ (39 : Int).toNat + 3) * 211 + 50021 * n + 29
        have := Int.mul_nonneg q0 (show (0 : Int) ≤ 211 by decide)
        omega
      · show c % ((10 : Int) ^ (39 : Int).toNat + 3) * 211 + 50021 * n + 29 < 2 ^ 200
        generalize c % ((10 : Int) ^ (39 : Int).toNat + 3) = d at q0 b0 ⊢
        omega
end
end K36
set_option Elab.async false
set_option pp.maxSteps 1200
set_option linter.all false
set_option maxRecDepth 100000
set_option maxHeartbeats 4000000
namespace K36
open PySem L2 My
abbrev li (l : List Int) : List V := l.map V.int
def sp_turns_to_one : Sp := fun vs H Q _ => ∃ size place : Int, vs = [.int size, .int place] ∧ New (.lst (li (toOne size place))) H Q
def sp_turns_for (K : PySem.W.Frag) (C C' : Addr) : Sp := fun vs H Q E => ∃ (size : Int) (a : Addr) (e : Eff), vs = [.int size, .ref a] ∧ SqT K H a (t3 e) ∧
  (0 ≤ size → Valid size e → New (.lst (li (tFor size e))) H Q) ∧ (size < 0 → Raised C (.int size) H E) ∧ (0 ≤ size → ¬ Valid size e → Raised C' (.ref a) H E)
def sp_number_of_effects (C : Addr) : Sp := fun vs H Q E => ∃ n : Int, vs = [.int n] ∧ n.natAbs < 2 ^ 200 ∧ (0 ≤ n → Q (.int (numEff n)) H) ∧ (n < 0 → Raised C (.int n) H E)
def sp_fewest_turns (K : PySem.W.Frag) (C : Addr) : Sp := fun vs H Q E => ∃ (a b c : Addr) (R S G : Two), vs = [.ref a, .ref b, .ref c] ∧ SqT K H a (t2 R) ∧ SqT K H b (t2 S) ∧ SqT K H c (t2 G) ∧
  (0 ≤ R.1 → 0 ≤ R.2 → Ok R S → Ok R G → New (.lst (li (few R S G))) H Q) ∧ (R.1 < 0 → Raised C (.int R.1) H E) ∧ (0 ≤ R.1 → R.2 < 0 → Raised C (.int R.2) H E) ∧
  (0 ≤ R.1 → 0 ≤ R.2 → ¬ (0 ≤ S.1 ∧ S.1 ≤ R.1) → Raised C (.int S.1) H E) ∧ (0 ≤ R.1 → 0 ≤ R.2 → 0 ≤ S.1 → S.1 ≤ R.1 → ¬ (0 ≤ S.2 ∧ S.2 ≤ R.2) → Raised C (.int S.2) H E) ∧
  (0 ≤ R.1 → 0 ≤ R.2 → Ok R S → ¬ (0 ≤ G.1 ∧ G.1 ≤ R.1) → Raised C (.int G.1) H E) ∧ (0 ≤ R.1 → 0 ≤ R.2 → Ok R S → 0 ≤ G.1 → G.1 ≤ R.1 → ¬ (0 ≤ G.2 ∧ G.2 ≤ R.2) → Raised C (.int G.2) H E)
def stops0 (size : Int) (e : Eff) : List Int := if e.1 ≥ 0 then [e.1 - e.2.1, size - e.2.2 + e.1] else [size - e.2.2 + e.1, e.1 - e.2.1]
def dstep (p : List Int × Int) (s : Int) : List Int × Int := if s = p.2 then p else (p.1 ++ [s - p.2], s)
theorem dstep_all : ∀ (l : List Int) (acc : List Int) (h : Int), (l.foldl dstep (acc, h)).1 = acc ++ diffs h l
  | [], acc, h => by simp [diffs]
  | s :: r, acc, h => by
    show (r.foldl dstep (dstep (acc, h) s)).1 = acc ++ diffs h (s :: r)
    unfold dstep diffs
    dsimp only
    by_cases e : s = h
    · rw [if_pos e, if_pos e]
      exact dstep_all r acc h
    · rw [if_neg e, if_neg e]
      have := dstep_all r (acc ++ [s - h]) s
      rw [show dstep = fun (p : List Int × Int) (s : Int) => if s = p.2 then p else (p.1 ++ [s - p.2], s) from rfl] at this
      refine Eq.trans ?_ (this.trans (by simp))
      rfl
theorem dstep_len : ∀ (l : List Int) (p : List Int × Int), (l.foldl dstep p).1.length ≤ p.1.length + l.length
  | [], p => Nat.le_refl _
  | s :: r, p => by
    have ih := dstep_len r (dstep p s)
    have : (dstep p s).1.length ≤ p.1.length + 1 := by
      unfold dstep
      split
      · omega
      · simp
    show (r.foldl dstep (dstep p s)).1.length ≤ p.1.length + (r.length + 1)
    omega
theorem inV_int (x : Int) (rows : List Int) : inV (V.int x) (rows.map V.int) = decide (x ∈ rows) := by
  unfold inV
  rw [List.any_map, Bool.eq_iff_iff, List.any_eq_true]
  constructor
  · rintro ⟨n, hn, e⟩
    have : n = x := by
      have e : (n == x) = true := e
      simpa using e
    subst this
    exact decide_eq_true hn
  · intro h
    exact ⟨x, of_decide_eq_true h, by show (x == x) = true; simp⟩
theorem flatI (rows : List Int) : (rows.map V.int).all flatV = true := by
  rw [List.all_map, List.all_eq_true]
  intro _ _
  rfl
/-! ### keys in the heap -/
section
variable {w : World} {K : PySem.W.Frag} {mg : Str → Option Value} {base : Heap}
theorem ok_turns_to_one (T : Txt K mg) : FnOk PR w K mg base CX0 1 T.a_turns_to_one T.d_turns_to_one ["size", "place"] sp_turns_to_one := by
  refine T.f_turns_to_one.ok sc_turns_to_one (fun vs H Q E h => ?_) (fun cdv A outer s H vs Q E hr h => ?_)
  · obtain ⟨a, b, rfl, _⟩ := h
    rfl
  · obtain ⟨size, place, rfl, k⟩ := h
    refine ⟨_, (pss_cons (ps_if (pt_cmpR op_eq (pv 0) pe_int (nomark _)) (pss_one (ps_ret (pe_lstG pa_nil))) pss_nil) (pss_cons (ps_if (pt_cmpR op_in_seq (pv 1) (pe_tupG (pa_cons pe_int (pa_cons (pv 0) pa_nil))) (by rfl)) (pss_one (ps_ret (pe_lstG (pa_cons (pe_cut (pe_ifExp (pt_cmpR op_gt (pv 1) pe_int (nomark _)) (pv 0) (pe_op op_sub pe_int (pv 0)))) pa_nil)))) pss_nil) (pss_one (ps_ret (pe_cut (pe_ifExp (pt_cmpR op_le (pe_op op_add (pv 1) (pv 1)) (pv 0) (nomark _)) (pe_lstG (pa_cons (pe_op op_sub pe_int (pv 0)) (pa_cons (pv 1) pa_nil))) (pe_lstG (pa_cons (pv 0) (pa_cons (pe_op op_sub (pv 1) (pv 0)) pa_nil))))))))), ?_⟩
    refine ⟨_, rfl, rfl, _, rfl, ?_⟩
    refine ifB (fun c => ?_) (fun c => ?_)
    · have c' : size = 0 := by simpa using c
      refine ⟨(by show 0 ≤ sizeLine; decide), fun p1 H1 n1 e1 h1 => ?_⟩
      refine k p1 H1 n1 e1 ?_
      rw [h1]
      unfold toOne
      rw [if_pos c']
      rfl
    have c' : ¬ size = 0 := by simpa using c
    refine ⟨_, rfl, _, rfl, (by show 2 ≤ sizeLine; decide), fun p2 H2 n2 e2 h2 => ?_⟩
    refine ⟨_, _, rfl, .inr (sqT h2), rfl, flatI [0, size], _, rfl, ?_⟩
    have ei : inV (V.int place) [V.int 0, V.int size] = decide (place ∈ [0, size]) := inV_int place [0, size]
    rw [ei]
    refine ifB (fun d => ?_) (fun d => ?_)
    · have d' : place = 0 ∨ place = size := by simpa using d
      refine ⟨fun v H' => H' = H2 ∧ v = .int (if place > 0 then size else 0 - size), ?_, ?_⟩
      · refine ⟨_, rfl, _, _, rfl, rfl, _, rfl, ?_⟩
        refine ifB (fun f => ?_) (fun f => ?_)
        · exact ⟨_, rfl, rfl, by rw [if_pos (of_decide_eq_true f)]⟩
        · exact ⟨_, rfl, _, _, rfl, rfl, rfl, by rw [if_neg (of_decide_eq_false f)]⟩
      · rintro v H' ⟨rfl, rfl⟩
        refine ⟨(by show 1 ≤ sizeLine; decide), fun p3 H3 n3 e3 h3 => ?_⟩
        refine k p3 H3 (Evl.fresh_back e2 n3) (e2.trans e3) ?_
        rw [h3]
        unfold toOne
        rw [if_neg c', if_pos d']
        rfl
    · have d' : ¬ (place = 0 ∨ place = size) := by simpa using d
      refine ⟨fun v H' => ∃ p, v = .ref p ∧ H p = none ∧ Ex H H' ∧ H' p = some (.lst (li (toOne size place))), ?_, ?_⟩
      · refine ⟨_, rfl, _, rfl, _, _, rfl, rfl, _, rfl, _, _, rfl, rfl, _, rfl, ?_⟩
        refine ifB (fun f => ?_) (fun f => ?_)
        · refine ⟨_, rfl, _, _, rfl, rfl, _, rfl, (by show 2 ≤ sizeLine; decide), fun p3 H3 n3 e3 h3 => ?_⟩
          refine ⟨p3, rfl, Evl.fresh_back e2 n3, e2.trans e3, ?_⟩
          rw [h3]
          unfold toOne
          rw [if_neg c', if_neg d', if_pos (of_decide_eq_true f)]
          rfl
        · refine ⟨_, rfl, _, rfl, _, rfl, _, _, rfl, rfl, (by show 2 ≤ sizeLine; decide), fun p3 H3 n3 e3 h3 => ?_⟩
          refine ⟨p3, rfl, Evl.fresh_back e2 n3, e2.trans e3, ?_⟩
          rw [h3]
          unfold toOne
          rw [if_neg c', if_neg d', if_neg (of_decide_eq_false f)]
          rfl
      · rintro v H' ⟨p, rfl, np, e, hp⟩
        exact k p H' np e hp
theorem ok_turns_for (T : Txt K mg) : FnOk PR w K mg base (L2.CX PR w) 5 T.a_turns_for T.d_turns_for ["size", "effect"] (sp_turns_for K T.c_InvalidNumber T.c_InvalidValue) := by
  refine T.f_turns_for.okX sc_turns_for (fun vs H Q E h => ?_) (fun cdv A outer s H vs Q E hr h => ?_)
  · obtain ⟨size, a, e, rfl, _⟩ := h
    rfl
  · obtain ⟨size, a, ⟨s, l, u⟩, rfl, ha, k0, k1, k2⟩ := h
    refine ⟨_, (pss_cons (ps_expr (pe_call (ok_need_effect T) (hr.mono (by decide)) (by rfl) T.g_need_effect T.f_need_effect.kp (b_need_effect T) .nil passX (pa_cons (pv 0) (pa_cons (pv 1) pa_nil)))) (pss_cons (ps_asg (pv 1) (pg_tup rfl (pgs_cons (pg_name (i := 2) sc_turns_for.nd rfl (by first | exact Or.inl rfl | exact Or.inr rfl)) (pgs_cons (pg_name (i := 3) sc_turns_for.nd rfl (by first | exact Or.inl rfl | exact Or.inr rfl)) (pgs_cons (pg_name (i := 4) sc_turns_for.nd rfl (by first | exact Or.inl rfl | exact Or.inr rfl)) pgs_nil))))) (pss_cons (ps_if (pt_cmpR op_eq (pv 3) (pv 4) (nomark _)) (pss_one (ps_ret (pe_call (ok_turns_to_one T) (hr.mono (by decide)) (by rfl) T.g_turns_to_one T.f_turns_to_one.kp (b_turns_to_one T) .nil pass0 (pa_cons (pv 0) (pa_cons (pv 3) pa_nil))))) pss_nil) (pss_cons (ps_par (by rfl) sc_turns_for.nd rfl rfl (by decide) rfl rfl (i := 5) (j := 6) (pa_cons (pe_op op_sub (pv 2) (pv 3)) (pa_cons (pe_op op_add (pe_op op_sub (pv 0) (pv 4)) (pv 2)) pa_nil)) (by rfl)) (pss_cons (ps_set (i := 7) sc_turns_for.nd rfl (by first | exact Or.inl rfl | exact Or.inr rfl) (pe_cut (pe_ifExp (pt_cmpR op_ge (pv 2) pe_int (nomark _)) (pe_lstG (pa_cons (pv 5) (pa_cons (pv 6) pa_nil))) (pe_lstG (pa_cons (pv 6) (pa_cons (pv 5) pa_nil)))))) (pss_cons (ps_cut (ps_if (pt_cmpR op_in_seq (pv 2) (pe_tupG (pa_cons (pv 5) (pa_cons (pv 6) pa_nil))) (by rfl)) (pss_one (ps_set (i := 7) sc_turns_for.nd rfl (by first | exact Or.inl rfl | exact Or.inr rfl) (pe_lstG (pa_cons (pe_op op_sub (pe_op op_add (pv 5) (pv 6)) (pv 2)) pa_nil)))) pss_nil)) (pss_cons (ps_par (by rfl) sc_turns_for.nd rfl rfl (by decide) rfl rfl (i := 8) (j := 9) (pa_cons (pe_lstG pa_nil) (pa_cons pe_int pa_nil)) (by rfl)) (pss_cons (ps_for (passes_of rfl) rfl (pi_list (pe_op op_catG (pv 7) (pe_lstG (pa_cons (pv 2) pa_nil)))) (pg_name (i := 10) sc_turns_for.nd rfl (by first | exact Or.inl rfl | exact Or.inr rfl)) (pss_one (ps_if (pt_cmpR op_ne (pv 10) (pv 9) (nomark _)) (pss_cons (ps_expr (pe_bm PySem.F.plainAttrs_list PySem.F.slot_list_append PySem.F.type_list_append mt_append (pv 8) (pa_cons (pe_op op_sub (pv 10) (pv 9)) pa_nil))) (pss_one (ps_set (i := 9) sc_turns_for.nd rfl (by first | exact Or.inl rfl | exact Or.inr rfl) (pv 10)))) pss_nil))) (pss_one (ps_ret (pv 8))))))))))), ?_⟩
    refine ⟨_, rfl, _, rfl, size, a, (s, l, u), rfl, ha, fun z v => ?_, k1, k2⟩
    have k := k0 z v
    refine ⟨_, rfl, _, _, rfl, ha, rfl, _, _, rfl, _, _, rfl, _, _, rfl, rfl, ?_⟩
    refine ⟨_, rfl, _, rfl, rfl, _, rfl, ?_⟩
    refine ifB (fun c => ?_) (fun c => ?_)
    · have c' : l = u := by simpa using c
      refine ⟨_, rfl, _, rfl, size, l, rfl, fun p1 H1 n1 e1 h1 => ?_⟩
      refine k p1 H1 n1 e1 ?_
      rw [h1]
      unfold tFor
      dsimp only
      rw [if_pos c']
    have c' : ¬ l = u := by simpa using c
    refine ⟨_, rfl, _, rfl, _, _, rfl, rfl, _, rfl, _, rfl, _, _, rfl, rfl, _, rfl, _, _, rfl, rfl, _, _, rfl, ?_⟩
    refine ⟨fun v H' => ∃ p, v = .ref p ∧ Ex H H' ∧ H' p = some (.lst (li (stops0 size (s, l, u)))), ?_, ?_⟩
    · refine ⟨_, rfl, _, _, rfl, rfl, _, rfl, ?_⟩
      refine ifB (fun f => ?_) (fun f => ?_)
      · refine ⟨_, rfl, _, rfl, (by show 2 ≤ sizeLine; decide), fun p3 H3 n3 e3 h3 => ?_⟩
        refine ⟨p3, rfl, e3, ?_⟩
        rw [h3]
        unfold stops0
        dsimp only
        rw [if_pos (of_decide_eq_true f)]
        rfl
      · refine ⟨_, rfl, _, rfl, (by show 2 ≤ sizeLine; decide), fun p3 H3 n3 e3 h3 => ?_⟩
        refine ⟨p3, rfl, e3, ?_⟩
        rw [h3]
        unfold stops0
        dsimp only
        rw [if_neg (of_decide_eq_false f)]
        rfl
    rintro v H3 ⟨p3, rfl, e3, h3⟩
    refine ⟨fun σ' H' => ∃ p, σ' = [some (.int size), some (.ref a), some (.int s), some (.int l), some (.int u), some (.int (s - l)), some (.int (size - u + s)), some (.ref p), none, none, none] ∧ Ex H H' ∧ H' p = some (.lst (li (stops size (s, l, u)))), ?_, ?_⟩
    · refine ⟨_, rfl, _, rfl, _, rfl, (by show 2 ≤ sizeLine; decide), fun p4 H4 n4 e4 h4 => ?_⟩
      refine ⟨_, _, rfl, .inr (sqT h4), rfl, flatI [s - l, size - u + s], _, rfl, ?_⟩
      have ei : inV (V.int s) [V.int (s - l), V.int (size - u + s)] = decide (s ∈ [s - l, size - u + s]) := inV_int s [s - l, size - u + s]
      rw [ei]
      refine ifB (fun d => ?_) (fun d => ?_)
      · have d' : s = s - l ∨ s = size - u + s := by simpa using d
        refine ⟨_, rfl, _, rfl, _, _, rfl, rfl, _, rfl, _, _, rfl, rfl, (by show 1 ≤ sizeLine; decide), fun p5 H5 n5 e5 h5 => ?_⟩
        refine ⟨p5, rfl, e3.trans (e4.trans e5), ?_⟩
        rw [h5]
        unfold stops
        dsimp only
        rw [if_pos d']
        rfl
      · have d' : ¬ (s = s - l ∨ s = size - u + s) := by simpa using d
        refine ⟨p3, rfl, e3.trans e4, ?_⟩
        rw [e4 _ _ h3]
        unfold stops stops0
        dsimp only
        rw [if_neg d']
    rintro σ' H4 ⟨p4, rfl, e4, h4⟩
    refine ⟨(by show 0 ≤ sizeLine; decide), fun F H5 n5 e5 h5 => ?_⟩
    have nF : H F = none := none_of e4 n5
    refine ⟨_, _, rfl, ?_⟩
    refine ⟨_, rfl, _, rfl, (by show 1 ≤ sizeLine; decide), fun p6 H6 n6 e6 h6 => ?_⟩
    have e56 := e5.trans e6
    have sl : (stops size (s, l, u)).length ≤ 2 := by
      unfold stops
      dsimp only
      split
      · exact Nat.le_succ 1
      · split <;> exact Nat.le_refl 2
    refine ⟨_, _, _, _, rfl, rfl, e56 _ _ h4, h6, ?_, fun p7 H7 n7 e7 h7 => ?_⟩
    · rw [List.length_map]
      exact Nat.le_trans (show _ + 1 ≤ 3 by omega) (by decide)
    have h7 : H7 p7 = some (.lst (li (stops size (s, l, u) ++ [s]))) := by
      rw [h7]
      unfold li
      rw [List.map_append]
      rfl
    have f7 := (e6.trans e7) _ _ h5
    have n7F : p7 ≠ F := (ne_of_none (e6 _ _ h5) n7).symm
    obtain ⟨L, hL⟩ : ∃ L, L = stops size (s, l, u) ++ [s] := ⟨_, rfl⟩
    have lL : L.length ≤ 3 := by
      rw [hL, List.length_append]
      show _ + 1 ≤ 3
      omega
    rw [← hL] at h7
    have e07 : Ex H H7 := e4.trans (e56.trans e7)
    refine ⟨_, rfl, ⟨_, sqI h7⟩, for_list (K := K) (a := p7) (xs := li L) (fun i σ H' => ∃ v, σ = [some (.int size), some (.ref a), some (.int s), some (.int l), some (.int u), some (.int (s - l)), some (.int (size - u + s)), some (.ref p4), some (.ref F), some (.int ((L.take i).foldl dstep ([], 0)).2), v] ∧ Ex H H' ∧ H' p7 = some (.lst (li L)) ∧ H' F = some (.lst (li ((L.take i).foldl dstep ([], 0)).1))) ⟨_, rfl, e07, h7, f7⟩ (fun i σ H' _ ⟨_, _, _, h, _⟩ => sqI h) ?_ ?_⟩
    · rintro i x σ H8 hi ⟨v, rfl, e8, h8, f8⟩
      obtain ⟨t, ht, rfl⟩ := mapI_get hi
      rw [take_next ht, List.foldl_append, List.foldl_cons, List.foldl_nil]
      have ll := dstep_len (L.take i) ([], 0)
      have lt : (L.take i).length ≤ 3 := Nat.le_trans (by rw [List.length_take]; exact Nat.min_le_right _ _) lL
      generalize (L.take i).foldl dstep ([], 0) = P at f8 ll ⊢
      refine ⟨_, rfl, _, rfl, rfl, _, rfl, ?_⟩
      refine ifB (fun q => ?_) (fun q => ?_)
      · have q' : ¬ t = P.2 := by simpa using q
        refine ⟨_, rfl, .inl ⟨rfl, _, sqI f8⟩, _, rfl, _, rfl, _, _, rfl, rfl, _, _, _, rfl, rfl, f8, ?_, ?_⟩
        · rw [List.length_map]
          have z0 : (([], 0) : List Int × Int).1.length = 0 := rfl
          exact Nat.lt_of_le_of_lt (show P.1.length ≤ 3 by omega) (by decide)
        have ed : dstep P t = (P.1 ++ [t - P.2], t) := if_neg q'
        rw [ed]
        refine ⟨_, rfl, _, rfl, Evl.Ex.mut e8 nF, ?_, ?_⟩
        · rw [upd_ne n7F]
          exact h8
        · rw [upd_same]
          unfold li
          rw [List.map_append]
          rfl
      · have q' : t = P.2 := by simpa using q
        have ed : dstep P t = P := if_pos q'
        rw [ed]
        exact ⟨_, rfl, e8, h8, f8⟩
    · rintro σ' H' ⟨v, rfl, e9, h9, f9⟩
      refine ⟨_, rfl, ?_⟩
      rw [show (li L).length = L.length from List.length_map _, List.take_length, dstep_all, List.nil_append, hL] at f9
      refine k F H' nF e9 ?_
      rw [f9]
      unfold tFor
      dsimp only
      rw [if_neg c']
theorem ok_number_of_effects (T : Txt K mg) : FnOk PR w K mg base (L2.CX PR w) 4 T.a_number_of_effects T.d_number_of_effects ["size"] (sp_number_of_effects T.c_InvalidNumber) := by
  refine T.f_number_of_effects.okX sc_number_of_effects (fun vs H Q E h => ?_) (fun cdv A outer s H vs Q E hr h => ?_)
  · obtain ⟨n, rfl, _⟩ := h
    rfl
  · obtain ⟨n, rfl, hn, k0, k1⟩ := h
    refine ⟨_, (pss_cons (ps_expr (pe_call (ok_need_from T) (hr.mono (by decide)) (by rfl) T.g_need_from T.f_need_from.kp (b_need_from T) .nil passX (pa_cons (pv 0) (pa_cons pe_int pa_nil)))) (pss_one (ps_ret (pe_op op_add (pe_op op_add (pv 0) pe_int) (pe_op op_fdivW (pe_op op_mulW (pe_op op_mulW (pv 0) (pe_op op_add (pv 0) pe_int)) (pe_op op_add (pe_op op_mulW pe_int (pv 0)) pe_int)) pe_int))))), ?_⟩
    refine ⟨_, rfl, n, 0, rfl, fun z => ?_, k1⟩
    have b1 : (n + 1).natAbs < 2 ^ 201 := by omega
    have b2 : (2 * n + 1).natAbs < 2 ^ 202 := by omega
    have b3 : (n * (n + 1)).natAbs < 2 ^ 401 := wide_lt (a := 200) (b := 201) hn b1
    refine ⟨_, rfl, _, _, rfl, rfl, _, rfl, _, rfl, _, _, rfl, rfl, _, _, rfl, rfl, wide_mul (a := 200) (b := 201) hn b1 (by decide) (by decide) (by decide), _, rfl, _, _, rfl, rfl, wide_mul (a := 10) (b := 200) (by decide) hn (by decide) (by decide) (by decide), _, _, rfl, rfl, _, _, rfl, rfl, wide_mul (a := 401) (b := 202) b3 b2 (by decide) (by decide) (by decide), _, _, rfl, rfl, wide_div (b := 10) (by decide) (by decide) (by decide) (by decide), _, _, rfl, rfl, ?_⟩
    exact k0 z
theorem ok_fewest_turns (T : Txt K mg) : FnOk PR w K mg base (L2.CX PR w) 5 T.a_fewest_turns T.d_fewest_turns ["rooms", "scrolls", "goal"] (sp_fewest_turns K T.c_InvalidNumber) := by
  refine T.f_fewest_turns.okX sc_fewest_turns (fun vs H Q E h => ?_) (fun cdv A outer s H vs Q E hr h => ?_)
  · obtain ⟨a, b, c, R, S, G, rfl, _⟩ := h
    rfl
  · obtain ⟨a, b, c, R, S, G, rfl, ha, hb, hc, k, k1, k2, k3, k4, k5, k6⟩ := h
    refine ⟨_, (pss_cons (ps_expr (pe_call (ok_need_rooms T) (hr.mono (by decide)) (by rfl) T.g_need_rooms T.f_need_rooms.kp (b_need_rooms T) .nil passX (pa_cons (pv 0) pa_nil))) (pss_cons (ps_expr (pe_call (ok_need_scrolls T) (hr.mono (by decide)) (by rfl) T.g_need_scrolls T.f_need_scrolls.kp (b_need_scrolls T) .nil passX (pa_cons (pv 0) (pa_cons (pv 1) pa_nil)))) (pss_cons (ps_expr (pe_call (ok_need_scrolls T) (hr.mono (by decide)) (by rfl) T.g_need_scrolls T.f_need_scrolls.kp (b_need_scrolls T) .nil passX (pa_cons (pv 0) (pa_cons (pv 2) pa_nil)))) (pss_cons (ps_asg (pv 1) (pg_tup rfl (pgs_cons (pg_name (i := 3) sc_fewest_turns.nd rfl (by first | exact Or.inl rfl | exact Or.inr rfl)) (pgs_cons (pg_name (i := 4) sc_fewest_turns.nd rfl (by first | exact Or.inl rfl | exact Or.inr rfl)) pgs_nil)))) (pss_cons (ps_asg (pv 2) (pg_tup rfl (pgs_cons (pg_name (i := 5) sc_fewest_turns.nd rfl (by first | exact Or.inl rfl | exact Or.inr rfl)) (pgs_cons (pg_name (i := 6) sc_fewest_turns.nd rfl (by first | exact Or.inl rfl | exact Or.inr rfl)) pgs_nil)))) (pss_cons (ps_cut (ps_if (pt_cmpR op_lt (pv 4) (pv 6) (nomark _)) (pss_one (ps_set (i := 7) sc_fewest_turns.nd rfl (by first | exact Or.inl rfl | exact Or.inr rfl) (pe_lstG (pa_cons (pe_op op_sub (pe_op op_add (pe_op op_sub (pe_ix ix_tup (pv 0) pe_int (fun _ _ => rfl)) (pv 3)) (pv 6)) (pv 4)) (pa_cons (pe_op op_sub (pv 5) (pe_ix ix_tup (pv 0) pe_int (fun _ _ => rfl))) pa_nil))))) (pss_one (ps_if (pt_cmpR op_gt (pv 4) (pv 6) (nomark _)) (pss_one (ps_set (i := 7) sc_fewest_turns.nd rfl (by first | exact Or.inl rfl | exact Or.inr rfl) (pe_lstG (pa_cons (pe_op op_sub (pe_op op_sub (pv 6) (pv 4)) (pv 3)) (pa_cons (pv 5) pa_nil))))) (pss_one (ps_set (i := 7) sc_fewest_turns.nd rfl (by first | exact Or.inl rfl | exact Or.inr rfl) (pe_lstG (pa_cons (pe_op op_sub (pv 5) (pv 3)) pa_nil)))))))) (pss_one (ps_ret (pe_lc (own := [("turn", 8)]) (g := gName 8) (by rfl) sc_fewest_turns.nd (pi_list (pv 7)) (blkOk_by (own := [("turn", 8)]) (N := ["rooms", "scrolls", "goal", "window", "page", "later", "beyond", "found", "turn"]) (sc := (defScope s_fewest_turns)) (by decide +kernel)) (fun _ _ _ _ _ => (pg_name (i := 8) sc_fewest_turns.nd rfl (by first | exact Or.inl rfl | exact Or.inr rfl))) (fun _ _ _ _ _ => (pts_one (pt_cmpR op_ne (pv 8) pe_int (nomark _)))) (fun _ _ _ _ _ => (pv 8))))))))))), ?_⟩
    refine ⟨_, rfl, a, R, rfl, ha, fun r1 r2 => ?_, k1, k2⟩
    refine ⟨_, rfl, _, rfl, a, b, R, S, rfl, ha, hb, fun okS H1 e1 => ?_, k3 r1 r2, k4 r1 r2⟩
    refine ⟨_, rfl, _, rfl, a, c, R, G, rfl, Evl.ex_t e1 ha, Evl.ex_t e1 hc, fun okG H2 e2 => ?_, fun z => (k5 r1 r2 okS z).mono e1, fun z1 z2 z3 => (k6 r1 r2 okS z1 z2 z3).mono e1⟩
    have e02 := e1.trans e2
    have ha2 := Evl.ex_t e02 ha
    refine ⟨_, rfl, _, _, rfl, Evl.ex_t e02 hb, rfl, _, _, rfl, _, _, rfl, rfl, ?_⟩
    refine ⟨_, rfl, _, _, rfl, Evl.ex_t e02 hc, rfl, _, _, rfl, _, _, rfl, rfl, ?_⟩
    refine ⟨fun σ' H' => ∃ p, σ' = [some (.ref a), some (.ref b), some (.ref c), some (.int S.1), some (.int S.2), some (.int G.1), some (.int G.2), some (.ref p), none] ∧ Ex H H' ∧ H' p = some (.lst (li (few0 R S G))), ?_, ?_⟩
    · refine ⟨_, rfl, _, rfl, _, _, rfl, rfl, _, rfl, ?_⟩
      refine ifB (fun q => ?_) (fun q => ?_)
      · refine ⟨_, rfl, _, _, _, _, rfl, rfl, ha2, at0, _, rfl, _, _, rfl, rfl, _, rfl, _, _, rfl, rfl, _, rfl, _, _, rfl, rfl, _, rfl, _, rfl, _, _, _, _, rfl, rfl, ha2, at0, _, _, rfl, rfl, (by show 2 ≤ sizeLine; decide), fun p1 H3 n1 e3 h1 => ?_⟩
        refine ⟨p1, rfl, e02.trans e3, ?_⟩
        rw [h1]
        unfold few0
        rw [if_pos (of_decide_eq_true q)]
        rfl
      have q' := of_decide_eq_false q
      refine ⟨_, rfl, _, rfl, _, _, rfl, rfl, _, rfl, ?_⟩
      refine ifB (fun f => ?_) (fun f => ?_)
      · refine ⟨_, rfl, _, rfl, _, _, rfl, rfl, _, rfl, _, _, rfl, rfl, _, rfl, (by show 2 ≤ sizeLine; decide), fun p1 H3 n1 e3 h1 => ?_⟩
        refine ⟨p1, rfl, e02.trans e3, ?_⟩
        rw [h1]
        unfold few0
        rw [if_neg q', if_pos (of_decide_eq_true f)]
        rfl
      · refine ⟨_, rfl, _, rfl, _, _, rfl, rfl, (by show 1 ≤ sizeLine; decide), fun p1 H3 n1 e3 h1 => ?_⟩
        refine ⟨p1, rfl, e02.trans e3, ?_⟩
        rw [h1]
        unfold few0
        rw [if_neg q', if_neg (of_decide_eq_false f)]
        rfl
    rintro σ' H3 ⟨p, rfl, e3, hp⟩
    have fl : (few0 R S G).length ≤ 2 := by
      unfold few0
      split
      · exact Nat.le_refl 2
      · split
        · exact Nat.le_refl 2
        · exact Nat.le_succ 1
    refine ⟨_, rfl, p, rfl, ⟨_, sqI hp⟩, fun D hD => lc_filtI (K := K) (a := p) (ns := few0 R S G) (p := fun t => !decide (t = 0)) (sqI hp) hD (by omega) (fun x => rfl) ?_ ?_ ?_⟩
    · intro n H' hn e' R' kR
      refine ⟨_, rfl, rfl, _, rfl, ?_⟩
      have : (!decide (V.int n = V.int 0)) = !decide (n = 0) := by
        congr 1
        rw [decide_eq_decide]
        simp
      rw [this]
      exact kR H' (Evl.Ex.refl _)
    · intro n H' N kN
      exact ⟨_, rfl, kN⟩
    intro H4 e4 d4
    exact k r1 r2 okS okG D H4 (Evl.fresh_back e3 hD) (e3.trans e4) d4
end
end K36
set_option Elab.async false
set_option pp.maxSteps 1200
set_option linter.all false
set_option maxRecDepth 100000
set_option maxHeartbeats 4000000
namespace K36
open PySem L2 My
open PySem.W (dataLt alike alikeAll dataLt_tuple dataLt_list dataLt_int dataLt_ints dataLt_all_yes dataLt_all_no)
/-! ### keys -/
def keyD (ts : List Int) : PyData := .tuple [.int ts.length, .int (sa ts), eL PyData.int ts]
theorem alike_ints : ∀ a b : List Int, alikeAll (a.map PyData.int) (b.map PyData.int) = true
  | [], _ => rfl
  | _ :: _, [] => rfl
  | _ :: a, _ :: b => by
    show (true && alikeAll (a.map PyData.int) (b.map PyData.int)) = true
    rw [alike_ints a b]
    rfl
theorem alike_key (a b : List Int) : alike (keyD a) (keyD b) = true := by
  show (true && (true && (alikeAll (a.map PyData.int) (b.map PyData.int) && true))) = true
  rw [alike_ints a b]
  rfl
theorem keyD_dep (a : List Int) : (keyD a).depth ≤ 60 := by
  show max (PyData.depth (.int a.length)) (max (PyData.depth (.int (sa a))) (max (PyData.depth (eL PyData.int a)) 0)) + 1 ≤ 60
  have := (goodL goodI).dep a
  have e1 : PyData.depth (.int a.length) = 0 := rfl
  have e2 : PyData.depth (.int (sa a)) = 0 := rfl
  omega
theorem dataLt_key (a b : List Int) : dataLt (keyD a) (keyD b) = keyLt a b := by
  have hl : alike (eL PyData.int a) (eL PyData.int b) = true := by
    show alikeAll (a.map PyData.int) (b.map PyData.int) = true
    exact alike_ints a b
  have ei : ∀ x y : Int, PyData.eqv (.int x) (.int y) = decide (x = y) := fun x y => goodI.eqv x y
  have el : PyData.eqv (eL PyData.int a) (eL PyData.int b) = decide (a = b) := (goodL goodI).eqv a b
  have ai : ∀ x y : Int, alike (.int x) (.int y) = true := fun _ _ => rfl
  unfold keyD keyLt
  rw [dataLt_tuple]
  by_cases h1 : (a.length : Int) = b.length
  · rw [if_neg (by omega), if_pos h1, dataLt_all_yes (ai _ _) (by rw [ei]; exact decide_eq_true h1)]
    by_cases h2 : sa a = sa b
    · rw [if_neg (by omega), if_pos h2, dataLt_all_yes (ai _ _) (by rw [ei]; exact decide_eq_true h2)]
      by_cases h3 : a = b
      · subst h3
        rw [dataLt_all_yes hl (by rw [el]; exact decide_eq_true rfl), decide_eq_false (List.lt_irrefl a)]
        exact PyProof.Rows.lex_irrefl _
      · rw [dataLt_all_no hl (by rw [el]; exact decide_eq_false h3)]
        unfold eL
        rw [dataLt_list]
        exact dataLt_ints _ _
    · rw [dataLt_all_no (ai _ _) (by rw [ei]; exact decide_eq_false h2), dataLt_int]
      by_cases h4 : sa a < sa b
      · rw [if_pos h4, decide_eq_true h4]
      · rw [if_neg h4, if_neg h2, decide_eq_false h4]
  · rw [dataLt_all_no (ai _ _) (by rw [ei]; exact decide_eq_false h1), dataLt_int]
    by_cases h4 : (a.length : Int) < b.length
    · rw [if_pos h4, decide_eq_true h4]
    · rw [if_neg h4, if_neg h1, decide_eq_false h4]
/-- key(a) < key(b) -/
theorem ltKey {K : PySem.W.Frag} {H : Hp} {q r p1 p2 : Addr} {a b : List Int} {Q : VK} (h1 : H q = some (.tup [.int a.length, .int (sa a), .ref p1])) (h2 : H r = some (.tup [.int b.length, .int (sa b), .ref p2])) (h3 : H p1 = some (.lst (li a))) (h4 : H p2 = some (.lst (li b))) (k : Q (.bl (keyLt a b)) H) : rLtD K (.ref q) (.ref r) H Q := by
  refine ⟨keyD a, keyD b, .tup (sqT h1) (.cons (.int _) (.cons (.int _) (.cons (dpL (sqI h3)) .nil))), .tup (sqT h2) (.cons (.int _) (.cons (.int _) (.cons (dpL (sqI h4)) .nil))), alike_key a b, (fun z => nomatch z), keyD_dep a, ?_⟩
  rw [dataLt_key]
  exact k
/-! ### lists of lists -/
def LsR (H : Hp) (v : V) (t : List Int) : Prop := ∃ p, v = .ref p ∧ H p = some (.lst (li t))
theorem LsR.ex {H H' : Hp} {v : V} {t : List Int} (e : Ex H H') : LsR H v t → LsR H' v t
  | ⟨p, a, h⟩ => ⟨p, a, e _ _ h⟩
/-- a pair of a list that stands in B and a number -/
def PrR (B H : Hp) (v : V) (x : List Int × Int) : Prop := ∃ q a, v = .ref q ∧ H q = some (.tup [.ref a, .int x.2]) ∧ B a = some (.lst (li x.1))
theorem PrR.ex {B H H' : Hp} {v : V} {x : List Int × Int} (e : Ex H H') : PrR B H v x → PrR B H' v x
  | ⟨q, a, h1, h2, h3⟩ => ⟨q, a, h1, e _ _ h2, h3⟩
theorem PrR.exj {B H H' : Hp} {D : Addr} {xs : List V} {v : V} {x : List Int × Int} (e : Exj D H H') (hD : H D = some (.lst xs)) : PrR B H v x → PrR B H' v x
  | ⟨q, a, h1, h2, h3⟩ => ⟨q, a, h1, e _ _ (fun z => by rw [z, hD] at h2; cases h2) h2, h3⟩
theorem nums_len {m : Int} (h0 : 0 ≤ m) (h6 : m ≤ 6) : (nums m).length ≤ 13 := by
  unfold nums nz
  refine Nat.le_trans (List.length_filter_le _ _) ?_
  rw [List.length_map, List.length_range]
  omega
theorem pairsL_len {m : Int} (h0 : 0 ≤ m) (h6 : m ≤ 6) : ∀ rows : List (List Int), (pairsL rows m).length ≤ 13 * rows.length
  | [] => Nat.le_refl _
  | r :: rows => by
    have ih := pairsL_len h0 h6 rows
    unfold pairsL at ih ⊢
    rw [List.flatMap_cons, List.length_append, List.length_map, List.length_cons]
    have := nums_len h0 h6
    omega
theorem lastL_len {m : Int} (h0 : 0 ≤ m) (h6 : m ≤ 6) : ∀ k, (lastL m k).length ≤ 13 ^ k
  | 0 => Nat.le_refl _
  | k + 1 => by
    have ih := lastL_len h0 h6 k
    show ((pairsL (lastL m k) m).map _).length ≤ 13 ^ (k + 1)
    rw [List.length_map, Nat.pow_succ]
    have := pairsL_len h0 h6 (lastL m k)
    omega
theorem lastL_size (m : Int) : ∀ k, ∀ t ∈ lastL m k, t.length = k
  | 0, t, h => by
    rw [List.mem_singleton.mp h]
    rfl
  | k + 1, t, h => by
    obtain ⟨p, hp, rfl⟩ := List.mem_map.mp h
    unfold pairsL at hp
    obtain ⟨r, hr, hp2⟩ := List.mem_flatMap.mp hp
    obtain ⟨n, hn, rfl⟩ := List.mem_map.mp hp2
    rw [List.length_append, lastL_size m k r hr]
    rfl
theorem listsL_size (m : Int) : ∀ k, ∀ t ∈ listsL m k, t.length ≤ k
  | 0, t, h => by
    rw [List.mem_singleton.mp h]
    exact Nat.le_refl _
  | k + 1, t, h => by
    rcases List.mem_append.mp h with q | q
    · exact Nat.le_succ_of_le (listsL_size m k t q)
    · exact Nat.le_of_eq (lastL_size m (k + 1) t q)
theorem listsL_len {m : Int} (h0 : 0 ≤ m) (h6 : m ≤ 6) : ∀ k, (listsL m k).length ≤ (k + 1) * 13 ^ k
  | 0 => Nat.le_refl _
  | k + 1 => by
    have ih := listsL_len h0 h6 k
    have := lastL_len h0 h6 (k + 1)
    show (listsL m k ++ lastL m (k + 1)).length ≤ _
    rw [List.length_append]
    have e : 13 ^ k ≤ 13 ^ (k + 1) := Nat.pow_le_pow_right (by decide) (Nat.le_succ k)
    have e2 : (k + 1) * 13 ^ k ≤ (k + 1) * 13 ^ (k + 1) := Nat.mul_le_mul_left _ e
    have e3 : (k + 1 + 1) * 13 ^ (k + 1) = (k + 1) * 13 ^ (k + 1) + 13 ^ (k + 1) := by rw [Nat.succ_mul]
    omega
def sp__law_effect (K : PySem.W.Frag) : Sp := fun vs H Q _ => ∃ (size : Int) (a : Addr) (ts : List Int), vs = [.int size, .ref a] ∧ SqL K H a (li ts) ∧ New (.tup (t3 (lawEff size ts))) H Q
def sp__law_key (K : PySem.W.Frag) : Sp := fun vs H Q _ => ∃ (a : Addr) (ts : List Int), vs = [.ref a] ∧ SqL K H a (li ts) ∧ ts.length ≤ 100 ∧ New (.tup [.int ts.length, .int (sa ts), .ref a]) H Q
def sp__law_ticked (K : PySem.W.Frag) : Sp := fun vs H Q _ => ∃ (a b c : Addr) (R S : Two) (ts : List Int), vs = [.ref a, .ref b, .ref c] ∧ SqT K H a (t2 R) ∧ SqT K H b (t2 S) ∧ SqL K H c (li ts) ∧ New (.tup (t2 (ticked R S ts))) H Q
def sp__law_pairs : Sp := fun vs H Q _ => ∃ (a : Addr) (us : List V) (rows : List (List Int)) (m : Int), vs = [.ref a, .int m] ∧ H a = some (.lst us) ∧ AllR (LsR H) us rows ∧ 0 ≤ m ∧ m ≤ 6 ∧ rows.length ≤ 1000 ∧
  ∀ p H' ps, H p = none → Ex H H' → H' p = some (.lst ps) → AllR (PrR H H') ps (pairsL rows m) → Q (.ref p) H'
def sp__law_lists : Sp := fun vs H Q _ => ∃ (m : Int) (k : Nat), vs = [.int m, .int ((k : Nat) : Int)] ∧ 0 ≤ m ∧ m ≤ 6 ∧ k ≤ 3 ∧ (m ≤ 3 ∨ k ≤ 2) ∧
  ∀ p H' us, H p = none → Ex H H' → H' p = some (.lst us) → AllR (LsR H') us (listsL m k) → Q (.ref p) H'
section
variable {w : World} {K : PySem.W.Frag} {mg : Str → Option Value} {base : Heap}
theorem ok__law_effect (T : Txt K mg) : FnOk PR w K mg base CX0 1 T.a__law_effect T.d__law_effect ["_law_size", "_law_turns"] (sp__law_effect K) := by
  refine T.f__law_effect.ok sc__law_effect (fun vs H Q E h => ?_) (fun cdv A outer s H vs Q E hr h => ?_)
  · obtain ⟨size, a, ts, rfl, _⟩ := h
    rfl
  · obtain ⟨size, a, ts, rfl, ha, k⟩ := h
    refine ⟨_, (pss_cons (ps_par (by rfl) sc__law_effect.nd rfl rfl (by decide) rfl rfl (i := 2) (j := 3) (pa_cons pe_int (pa_cons (pv 0) pa_nil)) (by rfl)) (pss_cons (ps_for PassesOwn.never rfl (pi_list (pv 1)) (pg_name (i := 4) sc__law_effect.nd rfl (by first | exact Or.inl rfl | exact Or.inr rfl)) (pss_one (ps_par (by rfl) sc__law_effect.nd rfl rfl (by decide) rfl rfl (i := 2) (j := 3) (pa_cons (pe_callB (call_max2 rfl) (by rfl) T.z_max (by decide +kernel) (pa_cons pe_int (pa_cons (pe_callB (call_min2 rfl) (by rfl) T.z_min (by decide +kernel) (pa_cons (pv 0) (pa_cons (pe_op op_add (pv 2) (pv 4)) pa_nil))) pa_nil))) (pa_cons (pe_callB (call_max2 rfl) (by rfl) T.z_max (by decide +kernel) (pa_cons pe_int (pa_cons (pe_callB (call_min2 rfl) (by rfl) T.z_min (by decide +kernel) (pa_cons (pv 0) (pa_cons (pe_op op_add (pv 3) (pv 4)) pa_nil))) pa_nil))) pa_nil)) (by rfl)))) (pss_one (ps_ret (pe_tupG (pa_cons (pe_cut (pe_ifExp (pt_cmpR op_lt (pv 2) (pv 3) (nomark _)) (pe_callB (cr_sum rfl) (by rfl) T.z_sum (by decide +kernel) (pa_cons (pv 1) pa_nil)) pe_int)) (pa_cons (pv 2) (pa_cons (pv 3) pa_nil)))))))), ?_⟩
    refine ⟨_, rfl, _, _, rfl, ?_⟩
    refine ⟨_, rfl, a, rfl, ⟨_, ha⟩, for_list (K := K) (a := a) (xs := li ts) (fun i σ H' => ∃ v, σ = [some (.int size), some (.ref a), some (.int ((ts.take i).foldl (effStep size) (0, size)).1), some (.int ((ts.take i).foldl (effStep size) (0, size)).2), v] ∧ H = H') ⟨_, rfl, rfl⟩ (fun i σ H' _ ⟨_, _, e⟩ => by rw [← e]; exact ha) ?_ ?_⟩
    · rintro i x σ H' hi ⟨v, rfl, rfl⟩
      obtain ⟨t, ht, rfl⟩ := mapI_get hi
      rw [take_next ht, List.foldl_append, List.foldl_cons, List.foldl_nil]
      generalize (ts.take i).foldl (effStep size) (0, size) = P
      refine ⟨_, rfl, _, rfl, _, rfl, _, _, rfl, rfl, _, _, rfl, _, _, rfl, _, rfl, _, rfl, _, rfl, _, _, rfl, rfl, _, _, rfl, _, _, rfl, _, _, rfl, ?_⟩
      exact ⟨_, rfl, rfl⟩
    · rintro σ H' ⟨v, rfl, rfl⟩
      rw [show (li ts).length = ts.length from List.length_map _, List.take_length]
      refine ⟨fun v' H' => H' = H ∧ v' = .int (lawEff size ts).1, ?_, ?_⟩
      · refine ⟨_, rfl, _, rfl, _, _, rfl, rfl, _, rfl, ?_⟩
        refine ifB (fun c => ?_) (fun c => ?_)
        · refine ⟨_, rfl, a, ts, rfl, ha, rfl, ?_⟩
          unfold lawEff effPair
          rw [if_pos (of_decide_eq_true c)]
        · refine ⟨rfl, ?_⟩
          unfold lawEff effPair
          rw [if_neg (of_decide_eq_false c)]
      · rintro v' H' ⟨rfl, rfl⟩
        refine ⟨_, rfl, _, rfl, (by show 3 ≤ sizeLine; decide), fun p1 H1 n1 e1 h1 => ?_⟩
        exact k p1 H1 n1 e1 h1
theorem ok__law_key (T : Txt K mg) : FnOk PR w K mg base CX0 1 T.a__law_key T.d__law_key ["_law_turns"] (sp__law_key K) := by
  refine T.f__law_key.ok sc__law_key (fun vs H Q E h => ?_) (fun cdv A outer s H vs Q E hr h => ?_)
  · obtain ⟨a, ts, rfl, _⟩ := h
    rfl
  · obtain ⟨a, ts, rfl, ha, hl, k⟩ := h
    refine ⟨_, (pss_one (ps_ret (pe_tupG (pa_cons (pe_callB call_len_seq (by rfl) T.z_len PySem.boot_len (pa_cons (pv 0) pa_nil)) (pa_cons (pe_callB (cr_sum rfl) (by rfl) T.z_sum (by decide +kernel) (pa_cons (pe_lc (own := [("_law_turn", 1)]) (g := gName 1) (by rfl) sc__law_key.nd (pi_list (pv 0)) (blkOk_by (own := [("_law_turn", 1)]) (N := ["_law_turns", "_law_turn"]) (sc := (defScope s__law_key)) (by decide +kernel)) (fun _ _ _ _ _ => (pg_name (i := 1) sc__law_key.nd rfl (by first | exact Or.inl rfl | exact Or.inr rfl))) (fun _ _ _ _ _ => pts_nil) (fun _ _ _ _ _ => (pe_callB call_abs (by rfl) T.z_abs (by decide +kernel) (pa_cons (pv 1) pa_nil)))) pa_nil)) (pa_cons (pv 0) pa_nil)))))), ?_⟩
    refine ⟨_, rfl, _, _, rfl, .inl ha, _, rfl, a, rfl, ⟨_, ha⟩, fun D hD => lc_mapL (K := K) (a := a) (ys := li (ts.map fun x => (x.natAbs : Int))) ha hD (by simp [li]) ?_ (fun x => rfl) ?_ ?_⟩
    · rw [List.length_map]
      exact Nat.le_trans hl (by decide)
    · intro i x y H' e' hx hy R kR
      obtain ⟨t, ht, rfl⟩ := mapI_get hx
      rw [li, List.map_map, List.getElem?_map, ht] at hy
      cases hy
      have ea : (if t < 0 then -t else t) = (t.natAbs : Int) := by split <;> omega
      refine ⟨_, rfl, _, rfl, ?_⟩
      show R (V.int (if t < 0 then -t else t)) H'
      rw [ea]
      exact kR H' (Evl.Ex.refl _)
    intro H1 e1 d1
    refine ⟨D, ts.map fun x => (x.natAbs : Int), rfl, sqI d1, ?_⟩
    refine ⟨_, rfl, (by show 3 ≤ sizeLine; decide), fun p2 H2 n2 e2 h2 => ?_⟩
    refine k p2 H2 (Evl.fresh_back e1 n2) (e1.trans e2) ?_
    rw [h2]
    unfold sa li
    rw [List.length_map]
theorem ok__law_ticked (T : Txt K mg) : FnOk PR w K mg base CX0 1 T.a__law_ticked T.d__law_ticked ["_law_rooms", "_law_scrolls", "_law_turns"] (sp__law_ticked K) := by
  refine T.f__law_ticked.ok sc__law_ticked (fun vs H Q E h => ?_) (fun cdv A outer s H vs Q E hr h => ?_)
  · obtain ⟨a, b, c, R, S, ts, rfl, _⟩ := h
    rfl
  · obtain ⟨a, b, c, R, S, ts, rfl, ha, hb, hc, k⟩ := h
    refine ⟨_, (pss_cons (ps_asg (pv 1) (pg_tup rfl (pgs_cons (pg_name (i := 3) sc__law_ticked.nd rfl (by first | exact Or.inl rfl | exact Or.inr rfl)) (pgs_cons (pg_name (i := 4) sc__law_ticked.nd rfl (by first | exact Or.inl rfl | exact Or.inr rfl)) pgs_nil)))) (pss_cons (ps_for PassesOwn.never rfl (pi_list (pv 2)) (pg_name (i := 5) sc__law_ticked.nd rfl (by first | exact Or.inl rfl | exact Or.inr rfl)) (pss_cons (ps_set (i := 6) sc__law_ticked.nd rfl (by first | exact Or.inl rfl | exact Or.inr rfl) (pe_op op_sub (pe_callB (call_max2 rfl) (by rfl) T.z_max (by decide +kernel) (pa_cons pe_int (pa_cons (pe_callB (call_min2 rfl) (by rfl) T.z_min (by decide +kernel) (pa_cons (pe_ix ix_tup (pv 0) pe_int (fun _ _ => rfl)) (pa_cons (pe_op op_add (pv 3) (pv 5)) pa_nil))) pa_nil))) (pv 3))) (pss_one (ps_par (by rfl) sc__law_ticked.nd rfl rfl (by decide) rfl rfl (i := 3) (j := 4) (pa_cons (pe_op op_add (pv 3) (pv 6)) (pa_cons (pe_callB (call_max2 rfl) (by rfl) T.z_max (by decide +kernel) (pa_cons pe_int (pa_cons (pe_callB (call_min2 rfl) (by rfl) T.z_min (by decide +kernel) (pa_cons (pe_ix ix_tup (pv 0) pe_int (fun _ _ => rfl)) (pa_cons (pe_op op_sub (pe_op op_add (pv 4) (pv 5)) (pv 6)) pa_nil))) pa_nil))) pa_nil)) (by rfl))))) (pss_one (ps_ret (pe_tupG (pa_cons (pv 3) (pa_cons (pv 4) pa_nil))))))), ?_⟩
    refine ⟨_, rfl, _, _, rfl, hb, rfl, _, _, rfl, _, _, rfl, rfl, ?_⟩
    refine ⟨_, rfl, c, rfl, ⟨_, hc⟩, for_list (K := K) (a := c) (xs := li ts) (fun i σ H' => ∃ v u, σ = [some (.ref a), some (.ref b), some (.ref c), some (.int (ticked R S (ts.take i)).1), some (.int (ticked R S (ts.take i)).2), v, u] ∧ H = H') ⟨_, _, rfl, rfl⟩ (fun i σ H' _ ⟨_, _, _, e⟩ => by rw [← e]; exact hc) ?_ ?_⟩
    · rintro i x σ H' hi ⟨v, u, rfl, rfl⟩
      obtain ⟨t, ht, rfl⟩ := mapI_get hi
      unfold ticked
      rw [take_next ht, List.foldl_append, List.foldl_cons, List.foldl_nil]
      generalize (ts.take i).foldl (tick1 R) S = P
      refine ⟨_, rfl, _, _, _, _, rfl, rfl, ha, at0, _, rfl, _, rfl, _, _, rfl, rfl, _, _, rfl, _, _, rfl, _, rfl, _, _, rfl, rfl, ?_⟩
      refine ⟨_, rfl, _, rfl, _, _, rfl, rfl, _, rfl, _, _, _, _, rfl, rfl, ha, at1, _, rfl, _, rfl, _, _, rfl, rfl, _, rfl, _, _, rfl, rfl, _, _, rfl, _, _, rfl, _, _, rfl, ?_⟩
      exact ⟨_, _, rfl, rfl⟩
    · rintro σ H' ⟨v, u, rfl, rfl⟩
      rw [show (li ts).length = ts.length from List.length_map _, List.take_length]
      refine ⟨_, rfl, _, rfl, (by show 2 ≤ sizeLine; decide), fun p1 H1 n1 e1 h1 => ?_⟩
      exact k p1 H1 n1 e1 h1
theorem ok__law_pairs (T : Txt K mg) : FnOk PR w K mg base CX0 1 T.a__law_pairs T.d__law_pairs ["_law_rows", "_law_most"] sp__law_pairs := by
  refine T.f__law_pairs.ok sc__law_pairs (fun vs H Q E h => ?_) (fun cdv A outer s H vs Q E hr h => ?_)
  · obtain ⟨a, us, rows, m, rfl, _⟩ := h
    rfl
  · obtain ⟨a, us, rows, m, rfl, ha, hR, m0, m6, hl, k⟩ := h
    refine ⟨_, (pss_cons (ps_set (i := 2) sc__law_pairs.nd rfl (by first | exact Or.inl rfl | exact Or.inr rfl) (pe_lstG pa_nil)) (pss_cons (ps_for PassesOwn.never rfl (pi_list (pv 0)) (pg_name (i := 3) sc__law_pairs.nd rfl (by first | exact Or.inl rfl | exact Or.inr rfl)) (pss_one (ps_set (i := 2) sc__law_pairs.nd rfl (by first | exact Or.inl rfl | exact Or.inr rfl) (pe_op op_catG (pv 2) (pe_lc (own := [("_law_number", 4)]) (g := gName 4) (by rfl) sc__law_pairs.nd (pi_range2 (by rfl) T.z_range (pa_cons (pe_op op_sub pe_int (pv 1)) (pa_cons (pe_op op_add (pv 1) pe_int) pa_nil))) (blkOk_by (own := [("_law_number", 4)]) (N := ["_law_rows", "_law_most", "_law_found", "_law_row", "_law_number"]) (sc := (defScope s__law_pairs)) (by decide +kernel)) (fun _ _ _ _ _ => (pg_name (i := 4) sc__law_pairs.nd rfl (by first | exact Or.inl rfl | exact Or.inr rfl))) (fun _ _ _ _ _ => (pts_one (pt_cmpR op_ne (pv 4) pe_int (nomark _)))) (fun _ _ _ _ _ => (pe_tupG (pa_cons (pv 3) (pa_cons (pv 4) pa_nil))))))))) (pss_one (ps_ret (pv 2))))), ?_⟩
    refine ⟨(by show 0 ≤ sizeLine; decide), fun p1 H1 n1 e1 h1 => ?_⟩
    refine ⟨_, rfl, a, rfl, ⟨_, sqI (e1 _ _ ha)⟩, for_list (K := K) (a := a) (xs := us) (fun i σ H' => ∃ F ps v u, σ = [some (.ref a), some (.int m), some (.ref F), v, u] ∧ Ex H H' ∧ H F = none ∧ H' F = some (.lst ps) ∧ AllR (PrR H H') ps (pairsL (rows.take i) m)) ⟨p1, [], _, _, rfl, e1, n1, h1, AllR.nil⟩ (fun i σ H' _ ⟨_, _, _, _, _, e, _⟩ => sqI (e _ _ ha)) ?_ ?_⟩
    · rintro i x σ H2 hi ⟨F, ps, v, u, rfl, e2, nF, hF, aF⟩
      obtain ⟨r, hr, q, rfl, hq⟩ := hR.get hi
      have lp : ps.length ≤ 13 * 1000 := by
        rw [aF.1]
        refine Nat.le_trans (pairsL_len m0 m6 _) ?_
        have : (rows.take i).length ≤ rows.length := by rw [List.length_take]; exact Nat.min_le_right _ _
        omega
      refine ⟨_, rfl, _, rfl, _, _, rfl, rfl, _, rfl, _, _, rfl, rfl, _, _, rfl, ⟨by omega, by omega, by omega, by omega⟩, fun D nD => lc_range (lo := 0 - m) (n := (m + 1 - (0 - m)).toNat) (fun j H' => ∃ ds, Ex H2 H' ∧ H' D = some (.lst ds) ∧ ds.length ≤ j ∧ AllR (PrR H H') ds ((nz ((List.range j).map fun i => (0 - m) + ((i : Nat) : Int))).map fun n => (r, n))) ⟨[], Evl.Ex.new nD, upd_same, Nat.le_refl _, AllR.nil⟩ ?_ ?_⟩
      · rintro j H3 hj ⟨ds, e3, d3, l3, a3⟩
        refine ⟨rfl, ?_⟩
        show _
        refine ⟨_, rfl, rfl, _, rfl, ?_⟩
        have eb : (!decide (V.int (0 - m + (j : Int)) = V.int 0)) = !decide (0 - m + (j : Int) = 0) := by
          congr 1
          rw [decide_eq_decide]
          simp
        rw [eb]
        have es : nz ((List.range (j + 1)).map fun i => (0 - m) + ((i : Nat) : Int)) = nz ((List.range j).map fun i => (0 - m) + ((i : Nat) : Int)) ++ nz [0 - m + (j : Int)] := by
          unfold nz
          rw [List.range_succ, List.map_append, List.filter_append]
          rfl
        refine ifB (fun c => ?_) (fun c => ?_)
        · have e1 : nz [0 - m + (j : Int)] = [0 - m + (j : Int)] := by
            unfold nz
            rw [List.filter_cons, if_pos c]
            rfl
          rw [e1] at es
          refine ⟨_, rfl, _, rfl, (by show 2 ≤ sizeLine; decide), fun p4 H4 n4 e4 h4 => ?_⟩
          have d4 := e4 _ _ d3
          have ej : Exj D H4 (upd H4 D (.lst (ds ++ [.ref p4]))) := (Exj.refl _ _).upd
          refine ⟨ds, d4, Nat.lt_of_le_of_lt (show ds.length ≤ 13 by omega) (by decide), ds ++ [.ref p4], Evl.Ex.mut (e3.trans e4) nD, upd_same, by rw [List.length_append]; show ds.length + 1 ≤ j + 1; omega, ?_⟩
          show AllR _ _ (List.map _ (nz ((List.range (j + 1)).map fun i => (0 - m) + ((i : Nat) : Int))))
          rw [es, List.map_append]
          exact AllR.snoc (a3.mono fun v x z => (z.ex e4).exj ej d4) (PrR.exj ej d4 ⟨p4, q, rfl, h4, hq⟩)
        · have e1 : nz [0 - m + (j : Int)] = [] := by
            unfold nz
            rw [List.filter_cons, if_neg (by rw [c]; simp)]
            rfl
          rw [e1, List.append_nil] at es
          refine ⟨ds, e3, d3, by omega, ?_⟩
          show AllR _ _ (List.map _ (nz ((List.range (j + 1)).map fun i => (0 - m) + ((i : Nat) : Int))))
          rw [es]
          exact a3
      · rintro H3 ⟨ds, e3, d3, l3, a3⟩
        have a3 : AllR (PrR H H3) ds ((nums m).map fun n => (r, n)) := a3
        refine ⟨_, _, _, _, rfl, rfl, e3 _ _ hF, d3, ?_, fun p5 H5 n5 e5 h5 => ?_⟩
        · exact Nat.le_trans (show ps.length + ds.length ≤ 20000 by omega) (by decide)
        refine ⟨p5, _, _, _, rfl, e2.trans (e3.trans e5), none_of (e2.trans e3) n5, h5, ?_⟩
        rw [take_snoc hr]
        unfold pairsL
        rw [List.flatMap_append]
        have e1 : [r].flatMap (fun r => (nums m).map fun n => (r, n)) = (nums m).map fun n => (r, n) := by simp
        rw [e1]
        exact AllR.append (aF.mono fun v x z => z.ex (e3.trans e5)) (a3.mono fun v x z => z.ex e5)
    · rintro σ H2 ⟨F, ps, v, u, rfl, e2, nF, hF, aF⟩
      rw [hR.1, List.take_length] at aF
      exact ⟨_, rfl, k F H2 ps nF e2 hF aF⟩
theorem ok__law_lists (T : Txt K mg) : FnOk PR w K mg base CX0 2 T.a__law_lists T.d__law_lists ["_law_most", "_law_many"] sp__law_lists := by
  refine T.f__law_lists.ok sc__law_lists (fun vs H Q E h => ?_) (fun cdv A outer s H vs Q E hr h => ?_)
  · obtain ⟨m, k, rfl, _⟩ := h
    rfl
  · obtain ⟨m, n, rfl, m0, m6, hn, hmn, k⟩ := h
    refine ⟨_, (pss_cons (ps_par (by rfl) sc__law_lists.nd rfl rfl (by decide) rfl rfl (i := 2) (j := 3) (pa_cons (pe_lstG (pa_cons (pe_lstG pa_nil) pa_nil)) (pa_cons (pe_lstG (pa_cons (pe_lstG pa_nil) pa_nil)) pa_nil)) (by rfl)) (pss_cons (ps_for PassesOwn.never rfl (pi_range1 (by rfl) T.z_range (pa_cons (pv 1) pa_nil)) (pg_name (i := 4) sc__law_lists.nd rfl (by first | exact Or.inl rfl | exact Or.inr rfl)) (pss_cons (ps_setLc (i := 3) (own := [("_law_row", 5), ("_law_number", 6)]) (g := (gTup K 2 (gCons (gName 5) (gCons (gName 6) gNil)))) (by rfl) sc__law_lists.nd rfl rfl (sw_true rfl rfl rfl (by decide +kernel)) (pi_list (pe_call (ok__law_pairs T) (hr.mono (by decide)) (by rfl) T.g__law_pairs T.f__law_pairs.kp (b__law_pairs T) .nil pass0 (pa_cons (pv 3) (pa_cons (pv 0) pa_nil)))) (blkOk_by (own := [("_law_row", 5), ("_law_number", 6)]) (N := ["_law_most", "_law_many", "_law_found", "_law_last", "_law_turn", "_law_row", "_law_number"]) (sc := (defScope s__law_lists)) (by decide +kernel)) (fun _ _ _ _ _ => (pg_tup rfl (pgs_cons (pg_name (i := 5) sc__law_lists.nd rfl (by first | exact Or.inl rfl | exact Or.inr rfl)) (pgs_cons (pg_name (i := 6) sc__law_lists.nd rfl (by first | exact Or.inl rfl | exact Or.inr rfl)) pgs_nil)))) (fun _ _ _ _ _ => pts_nil) (fun _ _ _ _ _ => (pe_op op_catG (pv 5) (pe_lstG (pa_cons (pv 6) pa_nil))))) (pss_one (ps_set (i := 2) sc__law_lists.nd rfl (by first | exact Or.inl rfl | exact Or.inr rfl) (pe_op op_catG (pv 2) (pv 3)))))) (pss_one (ps_ret (pv 2))))), ?_⟩
    refine ⟨(by show 0 ≤ sizeLine; decide), fun p1 H1 n1 e1 h1 => ?_⟩
    refine ⟨(by show 1 ≤ sizeLine; decide), fun p2 H2 n2 e2 h2 => ?_⟩
    refine ⟨(by show 0 ≤ sizeLine; decide), fun p3 H3 n3 e3 h3 => ?_⟩
    refine ⟨(by show 1 ≤ sizeLine; decide), fun p4 H4 n4 e4 h4 => ?_⟩
    have e24 := e3.trans e4
    have e14 := e1.trans (e2.trans e24)
    refine ⟨_, _, rfl, ?_⟩
    refine ⟨_, rfl, _, rfl, by omega, by omega, for_range (lo := 0) (n := ((n : Nat) : Int).toNat) (fun i σ H' => ∃ (F L : Addr) (us ls : List V) (v5 v6 v7 : Option V), σ = [some (.int m), some (.int ((n : Nat) : Int)), some (.ref F), some (.ref L), v5, v6, v7] ∧ Ex H H' ∧ H F = none ∧ H' F = some (.lst us) ∧ H' L = some (.lst ls) ∧ AllR (LsR H') us (listsL m i) ∧ AllR (LsR H') ls (lastL m i))
      ⟨p2, p4, _, _, _, _, _, rfl, e14, none_of e1 n2, e24 _ _ h2, h4, AllR.one ⟨p1, rfl, (e2.trans e24) _ _ h1⟩, AllR.one ⟨p3, rfl, e4 _ _ h3⟩⟩ ?_ ?_⟩
    · rintro i σ H5 hi ⟨F, L, us, ls, v5, v6, v7, rfl, e5, nF, hF, hL, aF, aL⟩
      have hi3 : i < 3 := by omega
      have p13 : 13 ^ i ≤ 169 := Nat.le_trans (Nat.pow_le_pow_right (by decide) (show i ≤ 2 by omega)) (by decide)
      have ll := lastL_len m0 m6 i
      have lf := listsL_len m0 m6 i
      have lf2 : (i + 1) * 13 ^ i ≤ 3 * 169 := Nat.mul_le_mul (by omega) p13
      have pl := pairsL_len m0 m6 (lastL m i)
      refine ⟨_, rfl, _, rfl, L, ls, lastL m i, m, rfl, hL, aL, m0, m6, by omega, fun p6 H6 ps n6 e6 h6 a6 => ?_⟩
      refine ⟨p6, rfl, ⟨_, sqI h6⟩, fun D nD => lc_objL (K := K) (a := p6) (xs := ps) (ys := (pairsL (lastL m i) m).map fun p => p.1 ++ [p.2]) (R := fun H v t => ∃ p, v = .ref p ∧ p ≠ D ∧ H p = some (.lst (li t))) (sqI h6) nD (by rw [List.length_map, a6.1]) (by rw [a6.1]; exact Nat.le_trans (show _ ≤ 3000 by omega) (by decide)) (fun H' H'' v y ⟨p, a, b, c⟩ e => ⟨p, a, b, e _ _ b c⟩) ?_ ?_⟩
      · intro j x y H7 e7 hD7 hx hy N Z kN
        obtain ⟨pr, hpr, q, r, rfl, hq, hr⟩ := a6.get hx
        rw [List.getElem?_map, hpr] at hy
        cases hy
        have hr7 : H7 r = some (.lst (li pr.1)) := e7 _ _ (e6 _ _ hr)
        refine ⟨_, _, rfl, sqT (e7 _ _ hq), rfl, _, _, rfl, _, _, rfl, rfl, rfl, ?_⟩
        show _
        refine ⟨_, rfl, _, rfl, (by show 1 ≤ sizeLine; decide), fun p8 H8 n8 e8 h8 => ?_⟩
        have sz : pr.1.length ≤ 3 := by
          have hm := List.mem_of_getElem? hpr
          unfold pairsL at hm
          obtain ⟨r', hr', hp2⟩ := List.mem_flatMap.mp hm
          obtain ⟨n', hn', rfl⟩ := List.mem_map.mp hp2
          have := lastL_size m i r' hr'
          show r'.length ≤ 3
          omega
        refine ⟨_, _, _, _, rfl, rfl, e8 _ _ hr7, h8, ?_, fun p9 H9 n9 e9 h9 => ?_⟩
        · rw [List.length_map]
          exact Nat.le_trans (show _ + 1 ≤ 4 by omega) (by decide)
        refine kN _ H9 (e8.trans e9) ⟨p9, rfl, ?_, ?_⟩
        · intro z
          rw [z] at n9
          exact hD7 (none_of e8 n9)
        · rw [h9]
          unfold li
          rw [List.map_append]
          rfl
      · intro H7 ls' e7 d7 a7
        have e67 := e6.trans e7
        have a7' : AllR (LsR H7) ls' (lastL m (i + 1)) := a7.mono fun v x ⟨p, a, b, c⟩ => ⟨p, a, c⟩
        have l7 := lastL_len m0 m6 (i + 1)
        rw [Nat.pow_succ] at l7
        refine ⟨_, rfl, _, rfl, _, _, _, _, rfl, rfl, e67 _ _ hF, d7, ?_, fun p8 H8 n8 e8 h8 => ?_⟩
        · rw [aF.1, a7'.1]
          exact Nat.le_trans (show _ + _ ≤ 5000 by omega) (by decide)
        refine ⟨p8, D, _, _, _, _, _, rfl, e5.trans (e67.trans e8), none_of (e5.trans e67) n8, h8, e8 _ _ d7, ?_, a7'.mono fun v x z => z.ex e8⟩
        exact AllR.append (aF.mono fun v x z => z.ex (e67.trans e8)) (a7'.mono fun v x z => z.ex e8)
    · rintro σ H5 ⟨F, L, us, ls, v5, v6, v7, rfl, e5, nF, hF, hL, aF, aL⟩
      exact ⟨_, rfl, k F H5 us nF e5 hF aF⟩
end
end K36
set_option Elab.async false
set_option pp.maxSteps 1200
set_option linter.all false
set_option maxRecDepth 100000
set_option maxHeartbeats 4000000
namespace My
open PySem L2
/-- a comprehension over a tuple, without tests, the element without a trace -/
theorem lc_mapT {K : PySem.W.Frag} {a : Addr} {xs ys : List V} {j : Nat} {te : TE} {vs : List Nat} {σ : L2.St} {H1 : Hp} {D : Addr} {Qd : Hp → Prop} (hx : SqT K H1 a xs) (hD : H1 D = none) (hl : ys.length = xs.length) (hz : xs.length ≤ sizeLine)
    (hw : ∀ x, wipe ((wipe σ vs).set j (some x)) vs = wipe σ vs)
    (he : ∀ (i : Nat) x y H', Ex H1 H' → xs[i]? = some x → ys[i]? = some y → ∀ R : VK, (∀ H2, Ex H' H2 → R y H2) → te ((wipe σ vs).set j (some x)) H' R)
    (k : ∀ H', Ex H1 H' → H' D = some (.lst ys) → Qd H') :
    ∃ W : Nat → Nat → Hp → Prop, (∃ m, W 0 m (upd H1 D (.lst []))) ∧ ∀ i m H, W i m H →
      ((Itt K a).stop i H ∧ Qd H) ∨ ((Itt K a).go i H ∧ ∃ Nx : Hp → Prop, (∀ H', Nx H' → ∃ m', m' < m ∧ W (i + 1) m' H') ∧ ∀ x H', (Itt K a).yld i H x H' → gName j x (wipe σ vs) H' fun σ2 H2 => wipe σ2 vs = wipe σ vs ∧ tYes σ2 H2 fun b H3 =>
        if b = true then te σ2 H3 fun y H4 => ∃ acc, H4 D = some (.lst acc) ∧ acc.length < sizeLine ∧ Nx (upd H4 D (.lst (acc ++ [y]))) else Nx H3) := by
  refine lc_tup (xs := xs) (fun i H' => Ex H1 H' ∧ H' D = some (.lst (ys.take i))) ⟨Evl.Ex.new hD, upd_same⟩ (fun i H' _ p => Evl.ex_t p.1 hx) (fun i x H' hi p => ?_) (fun H' p => k H' p.1 ?_)
  · have hi' : i < xs.length := (List.getElem?_eq_some_iff.mp hi).1
    have hy : ys[i]? = some (ys[i]'(by omega)) := List.getElem?_eq_getElem (by omega)
    refine ⟨hw x, ?_⟩
    show te ((wipe σ vs).set j (some x)) H' _
    refine he i x _ H' p.1 hi hy _ fun H2 e2 => ⟨ys.take i, e2 _ _ p.2, ?_, ?_⟩
    · rw [List.length_take]
      omega
    · refine ⟨Evl.Ex.mut (p.1.trans e2) hD, ?_⟩
      rw [upd_same, List.take_add_one, hy]
      rfl
  · have := p.2
    rw [List.take_of_length_le (by omega)] at this
    exact this

end My
namespace K36
open PySem L2 My
open PySem.W (AllAlike Sortable dataLe)
theorem nef {a b : V} (h : a = b) : (!decide (a = b)) = false := by
  rw [decide_eq_true h]
  rfl
/-! ### the dict of the best lists -/
def keyE (e : Eff) : NestedKey := .tup [.num e.1, .num e.2.1, .num e.2.2]
theorem keyE_inj {a b : Eff} (h : keyE a = keyE b) : a = b := by
  unfold keyE at h
  injection h with h
  injection h with h1 h
  injection h with h2 h
  injection h with h3 h
  injection h1 with h1
  injection h2 with h2
  injection h3 with h3
  exact Prod.ext h1 (Prod.ext h2 h3)
theorem keyE_dep (e : Eff) : (keyE e).depth ≤ 8 := by
  show max 0 (max 0 (max 0 0)) + 1 ≤ 8
  decide
theorem nisE {K : PySem.W.Frag} {H : Hp} {q : Addr} {e : Eff} {β : Bool} (h : SqT K H q (t3 e)) : NIs β K H (keyE e) (.ref q) := .tup h (.cons (.num _) (.cons (.num _) (.cons (.num _) .nil)))
theorem nisE_of {K : PySem.W.Frag} {H : Hp} {q : Addr} {e : Eff} (h : NIs false K H (keyE e) (.ref q)) : SqT K H q (t3 e) := by
  unfold keyE at h
  cases h with
  | tup h1 h2 =>
    have := NAll.ints_eq [e.1, e.2.1, e.2.2] _ h2
    rw [this] at h1
    exact h1
/-- what the dict holds -/
abbrev DcE (H : Hp) (kvs : List (NestedKey × V)) (d : Dt) : Prop := Paired (fun kv q => kv.1 = keyE q.1 ∧ ∃ p, kv.2 = .ref p ∧ H p = some (.lst (li q.2))) kvs d
theorem dcE_keep {H H' : Hp} {kvs : List (NestedKey × V)} {d : Dt} (h : DcE H kvs d) (e : ∀ p xs, H p = some (.lst xs) → H' p = some (.lst xs)) : DcE H' kvs d :=
  Paired.mapP h fun kv q ⟨a, p, b, c⟩ => ⟨a, p, b, e p _ c⟩
theorem dcE_get {H : Hp} {kvs : List (NestedKey × V)} {d : Dt} (h : DcE H kvs d) (e : Eff) : (getD d e = none ∧ valV kvs (keyE e) = none) ∨ ∃ t p, getD d e = some t ∧ valV kvs (keyE e) = some (.ref p) ∧ H p = some (.lst (li t)) := by
  induction h with
  | nil => exact .inl ⟨rfl, rfl⟩
  | @cons kv q kvs f r t ih =>
    obtain ⟨a, p, b, c⟩ := r
    by_cases z : q.1 = e
    · refine .inr ⟨q.2, p, ?_, ?_, c⟩
      · unfold getD
        rw [List.find?_cons_of_pos (by simp [z])]
        rfl
      · rw [valV_pos (by rw [a, z]), b]
    · have ne : ¬ kv.1 = keyE e := fun y => z (keyE_inj (by rw [← a, y]))
      have g : getD (q :: f) e = getD f e := by
        unfold getD
        rw [List.find?_cons_of_neg (by simp [z])]
      rw [g, valV_neg ne]
      exact ih
theorem dcE_any {H : Hp} {kvs : List (NestedKey × V)} {d : Dt} (h : DcE H kvs d) (e : Eff) : (kvs.any fun kv => decide (kv.1 = keyE e)) = d.any fun p => decide (p.1 = e) := by
  induction h with
  | nil => rfl
  | @cons kv q kvs f r t ih =>
    rw [List.any_cons, List.any_cons, ih]
    congr 1
    rw [decide_eq_decide, r.1]
    exact ⟨keyE_inj, fun z => by rw [z]⟩
theorem dcE_put {H : Hp} {kvs : List (NestedKey × V)} {d : Dt} (h : DcE H kvs d) {e : Eff} {t : List Int} {p : Addr} (hp : H p = some (.lst (li t))) : DcE H (putK kvs (keyE e) (.ref p)) (putD d e t) := by
  unfold putK putD
  rw [dcE_any h e]
  by_cases z : (d.any fun p => decide (p.1 = e)) = true
  · rw [if_pos z, if_pos z]
    clear z
    induction h with
    | nil => exact .nil
    | @cons kv q kvs f r t' ih =>
      rw [List.map_cons, List.map_cons]
      refine .cons ?_ ih
      by_cases y : q.1 = e
      · rw [if_pos y, if_pos (by rw [r.1, y])]
        exact ⟨r.1, p, rfl, hp⟩
      · rw [if_neg y, if_neg (fun x => y (keyE_inj (by rw [← r.1, x])))]
        exact r
  · rw [if_neg z, if_neg z]
    clear z
    induction h with
    | nil => exact .cons ⟨rfl, p, rfl, hp⟩ .nil
    | cons r t' ih => exact .cons r ih
theorem dcE_at {H : Hp} {kvs : List (NestedKey × V)} {d : Dt} (h : DcE H kvs d) : ∀ {i : Nat} {kv : NestedKey × V}, kvs[i]? = some kv → ∃ q, d[i]? = some q ∧ kv.1 = keyE q.1 := by
  induction h with
  | nil =>
    intro i kv z
    cases z
  | @cons kv q kvs f r t ih =>
    intro i kv' z
    cases i with
    | zero =>
      cases z
      exact ⟨q, rfl, r.1⟩
    | succ i => exact ih (i := i) z
def upB (d : Dt) (e : Eff) (t : List Int) : Bool := match getD d e with
  | none => true
  | some b => keyLt t b
theorem stepE_up (size : Int) (d : Dt) (t : List Int) : stepE size d t = if upB d (lawEff size t) t = true then putD d (lawEff size t) t else d := by
  unfold stepE upB
  cases getD d (lawEff size t) with
  | none => rfl
  | some b => rfl
theorem putD_len (d : Dt) (e : Eff) (t : List Int) : (putD d e t).length ≤ d.length + 1 := by
  unfold putD
  split
  · rw [List.length_map]
    omega
  · rw [List.length_append]
    exact Nat.le_refl _
theorem stepE_len (size : Int) (d : Dt) (t : List Int) : (stepE size d t).length ≤ d.length + 1 := by
  rw [stepE_up]
  split
  · exact putD_len _ _ _
  · omega
theorem foldE_len (size : Int) : ∀ (ls : List (List Int)) (d : Dt), (ls.foldl (stepE size) d).length ≤ d.length + ls.length
  | [], d => Nat.le_refl _
  | t :: ls, d => by
    have ih := foldE_len size ls (stepE size d t)
    have := stepE_len size d t
    show (ls.foldl (stepE size) (stepE size d t)).length ≤ d.length + (ls.length + 1)
    omega
theorem getD_mem {d : Dt} {e : Eff} {t : List Int} (h : getD d e = some t) : (e, t) ∈ d := by
  unfold getD at h
  obtain ⟨p, hp, rfl⟩ := Option.map_eq_some_iff.mp h
  have := List.find?_some hp
  have e1 : p.1 = e := of_decide_eq_true this
  rw [← e1]
  exact List.mem_of_find?_eq_some hp
theorem getD_some {d : Dt} {q : Eff × List Int} (h : q ∈ d) : ∃ t, getD d q.1 = some t := by
  unfold getD
  cases z : d.find? fun p => decide (p.1 = q.1) with
  | none =>
    have := List.find?_eq_none.mp z q h
    simp at this
  | some p => exact ⟨_, rfl⟩
theorem putD_mem {d : Dt} {e : Eff} {t : List Int} {q : Eff × List Int} (h : q ∈ putD d e t) : q.2 = t ∨ q ∈ d := by
  unfold putD at h
  split at h
  · obtain ⟨p, hp, rfl⟩ := List.mem_map.mp h
    split
    · exact .inl rfl
    · exact .inr hp
  · rcases List.mem_append.mp h with z | z
    · exact .inr z
    · rw [List.mem_singleton.mp z]
      exact .inl rfl
theorem foldE_mem (size : Int) : ∀ (ls : List (List Int)) (d : Dt) (q : Eff × List Int), q ∈ ls.foldl (stepE size) d → q.2 ∈ ls ∨ q ∈ d
  | [], d, q, h => .inr h
  | t :: ls, d, q, h => by
    rcases foldE_mem size ls (stepE size d t) q h with z | z
    · exact .inl (List.mem_cons_of_mem _ z)
    · rw [stepE_up] at z
      split at z
      · rcases putD_mem z with y | y
        · rw [y]
          exact .inl List.mem_cons_self
        · exact .inr y
      · exact .inr z
theorem paired_get {α β : Type} {F : α → β → Prop} {xs : List α} {ys : List β} (h : Paired F xs ys) : ∀ {j : Nat} {y : β}, ys[j]? = some y → ∃ x, xs[j]? = some x ∧ F x y := by
  induction h with
  | nil =>
    intro j y z
    cases z
  | @cons x y' xs ys r t ih =>
    intro j y z
    cases j with
    | zero =>
      cases z
      exact ⟨x, rfl, r⟩
    | succ j => exact ih (j := j) z
def effD (e : Eff) : PyData := eT PyData.int [e.1, e.2.1, e.2.2]
theorem dcE_dp {K : PySem.W.Frag} {H : Hp} {kvs : List (NestedKey × V)} {d : Dt} (h : DcE H kvs d) : ∀ {bs : List Addr}, Paired (fun kv b => NIs false K H kv.1 (.ref b)) kvs bs → DpAll K H (bs.map V.ref) (d.map fun p => effD p.1) := by
  induction h with
  | nil =>
    intro bs pd
    cases pd
    exact .nil
  | @cons kv q kvs f r t ih =>
    intro bs pd
    cases pd with
    | @cons _ b _ bs hb tb =>
      refine .cons ?_ (ih tb)
      rw [r.1] at hb
      exact .tup (nisE_of hb) (dpI [q.1.1, q.1.2.1, q.1.2.2])
theorem alikeE (d : Dt) : AllAlike (d.map fun p => effD p.1) := AllAlike.of fun b b' => rfl
theorem sortE (d : Dt) : Sortable (d.map fun p => effD p.1) := Sortable.tuples fun b => ⟨_, _, rfl⟩
theorem zsort_mem {xs : List V} {ds : List PyData} {x : V} (h : x ∈ zsort xs ds) : x ∈ xs := by
  unfold zsort at h
  obtain ⟨p, hp, rfl⟩ := List.mem_map.mp h
  have := (List.mergeSort_perm _ _).mem_iff.mp hp
  exact (List.of_mem_zip this).1
theorem numEff_bd {n : Int} (h0 : 0 ≤ n) (h1 : n.natAbs < 2 ^ 104) : (numEff n).natAbs < 2 ^ 320 := by
  have b1 : (n + 1).natAbs < 2 ^ 105 := by omega
  have b2 : (2 * n + 1).natAbs < 2 ^ 106 := by omega
  have b3 : (n * (n + 1)).natAbs < 2 ^ 209 := wide_lt (a := 104) (b := 105) h1 b1
  have b4 : (n * (n + 1) * (2 * n + 1)).natAbs < 2 ^ 315 := wide_lt (a := 209) (b := 106) b3 b2
  have p0 : 0 ≤ n * (n + 1) * (2 * n + 1) := Int.mul_nonneg (Int.mul_nonneg h0 (by omega)) (by omega)
  unfold numEff
  generalize n * (n + 1) * (2 * n + 1) = P at b4 p0
  omega
def sp__law_effects_right : Sp := fun vs H Q _ => ∃ (size wd : Int), vs = [.int size, .int wd] ∧ 0 ≤ size ∧ size ≤ 3 ∧ 1 ≤ wd ∧ wd < 2 ^ 100 ∧ Evl.RetV (.bl true) H Q
section
variable {w : World} {K : PySem.W.Frag} {mg : Str → Option Value} {base : Heap}
theorem ok__law_effects_right (T : Txt K mg) : FnOk PR w K mg base CX0 6 T.a__law_effects_right T.d__law_effects_right ["_law_size", "_law_width"] sp__law_effects_right := by
  refine T.f__law_effects_right.ok sc__law_effects_right (fun vs H Q E h => ?_) (fun cdv A outer s H vs Q E hr h => ?_)
  · obtain ⟨size, wd, rfl, _⟩ := h
    rfl
  · obtain ⟨size, wd, rfl, z0, z3, w1, w2, k⟩ := h
    refine ⟨_, (pss_cons (ps_set (i := 2) sc__law_effects_right.nd rfl (by first | exact Or.inl rfl | exact Or.inr rfl) pe_nnew) (pss_cons (ps_for PassesOwn.never rfl (pi_list (pe_call (ok__law_lists T) (hr.mono (by decide)) (by rfl) T.g__law_lists T.f__law_lists.kp (b__law_lists T) .nil pass0 (pa_cons (pv 0) (pa_cons pe_int pa_nil)))) (pg_name (i := 3) sc__law_effects_right.nd rfl (by first | exact Or.inl rfl | exact Or.inr rfl)) (pss_cons (ps_set (i := 4) sc__law_effects_right.nd rfl (by first | exact Or.inl rfl | exact Or.inr rfl) (pe_call (ok__law_effect T) (hr.mono (by decide)) (by rfl) T.g__law_effect T.f__law_effect.kp (b__law_effect T) .nil pass0 (pa_cons (pv 0) (pa_cons (pv 3) pa_nil)))) (pss_one (ps_if (pt_cut (PW.pt (pw_or (pt_cmp (pc_nnotin hr.units (pv 4) (pv 2))) (pw_or1 (pt_cmpR (op_ltD (u65 hr)) (pe_call (ok__law_key T) (hr.mono (by decide)) (by rfl) T.g__law_key T.f__law_key.kp (b__law_key T) .nil pass0 (pa_cons (pv 3) pa_nil)) (pe_call (ok__law_key T) (hr.mono (by decide)) (by rfl) T.g__law_key T.f__law_key.kp (b__law_key T) .nil pass0 (pa_cons (pe_nget hr.units (pv 2) (pv 4) (fun _ _ => rfl)) pa_nil)) (nomark _)))))) (pss_one (ps_nput hr.units (pv 2) (pv 4) (pv 3) rfl)) pss_nil)))) (pss_cons (ps_if (PW.pt (pw_or (pt_cmpR op_ne (pe_call (ok_number_of_effects T) (hr.mono (by decide)) (by rfl) T.g_number_of_effects T.f_number_of_effects.kp (b_number_of_effects T) .nil passL (pa_cons (pv 0) pa_nil)) (pe_callB call_lenN (by rfl) T.z_len PySem.boot_len (pa_cons (pv 2) pa_nil)) (nomark _)) (pw_or1 (pt_cmpR op_ne (pe_callK0 (ok_number_of_effects T) (hr.mono (by decide)) (by rfl) T.g_number_of_effects T.f_number_of_effects.kp (kb_number_of_effects_0_size T) passL (pk_cons (pv 0) pk_nil)) (pe_callB call_lenN (by rfl) T.z_len PySem.boot_len (pa_cons (pv 2) pa_nil)) (nomark _))))) (pss_one (ps_ret pe_bl)) pss_nil) (pss_cons (ps_set (i := 5) sc__law_effects_right.nd rfl (by first | exact Or.inl rfl | exact Or.inr rfl) (pe_op op_add (pe_op op_mulW (pv 1) (pv 0)) pe_int)) (pss_cons (ps_if (pt_cmpR op_ne (pe_op op_mulW pe_int (pe_call (ok_number_of_effects T) (hr.mono (by decide)) (by rfl) T.g_number_of_effects T.f_number_of_effects.kp (b_number_of_effects T) .nil passL (pa_cons (pv 5) pa_nil))) (pe_op op_add (pe_op op_mulW pe_int (pe_op op_add (pv 5) pe_int)) (pe_op op_mulW (pe_op op_mulW (pv 5) (pe_op op_add (pv 5) pe_int)) (pe_op op_add (pe_op op_mulW pe_int (pv 5)) pe_int))) (nomark _)) (pss_one (ps_ret pe_bl)) pss_nil) (pss_cons (ps_for PassesOwn.never rfl (pi_list (pe_callB (cr_sortedN rfl hr.units) (by rfl) T.z_sorted (by decide +kernel) (pa_cons (pv 2) pa_nil))) (pg_name (i := 4) sc__law_effects_right.nd rfl (by first | exact Or.inl rfl | exact Or.inr rfl)) (pss_cons (ps_if (pt_cmpR (op_neD hr.units) (pe_call (ok_turns_for T) (hr.mono (by decide)) (by rfl) T.g_turns_for T.f_turns_for.kp (b_turns_for T) .nil passL (pa_cons (pv 0) (pa_cons (pv 4) pa_nil))) (pe_nget hr.units (pv 2) (pv 4) (fun _ _ => rfl)) (nomark _)) (pss_one (ps_ret pe_bl)) pss_nil) (pss_cons (ps_set (i := 6) sc__law_effects_right.nd rfl (by first | exact Or.inl rfl | exact Or.inr rfl) (pe_callK0 (ok_turns_for T) (hr.mono (by decide)) (by rfl) T.g_turns_for T.f_turns_for.kp (kb_turns_for_0_effect_size T) passL (pk_cons (pe_callTy call_tupleG (by rfl) T.z_tuple (by decide +kernel) (pa_cons (pe_lc (own := [("_law_number", 7)]) (g := gName 7) (by rfl) sc__law_effects_right.nd (pi_tup (pv 4)) (blkOk_by (own := [("_law_number", 7)]) (N := ["_law_size", "_law_width", "_law_best", "_law_turns", "_law_effect_here", "_law_far", "_law_great", "_law_number", "_law_turn"]) (sc := (defScope s__law_effects_right)) (by decide +kernel)) (fun _ _ _ _ _ => (pg_name (i := 7) sc__law_effects_right.nd rfl (by first | exact Or.inl rfl | exact Or.inr rfl))) (fun _ _ _ _ _ => pts_nil) (fun _ _ _ _ _ => (pe_op op_mulW (pv 1) (pv 7)))) pa_nil)) (pk_cons (pe_op op_mulW (pv 1) (pv 0)) pk_nil)))) (pss_one (ps_if (pt_cmpR (op_neD hr.units) (pv 6) (pe_lc (own := [("_law_turn", 8)]) (g := gName 8) (by rfl) sc__law_effects_right.nd (pi_list (pe_nget hr.units (pv 2) (pv 4) (fun _ _ => rfl))) (blkOk_by (own := [("_law_turn", 8)]) (N := ["_law_size", "_law_width", "_law_best", "_law_turns", "_law_effect_here", "_law_far", "_law_great", "_law_number", "_law_turn"]) (sc := (defScope s__law_effects_right)) (by decide +kernel)) (fun _ _ _ _ _ => (pg_name (i := 8) sc__law_effects_right.nd rfl (by first | exact Or.inl rfl | exact Or.inr rfl))) (fun _ _ _ _ _ => pts_nil) (fun _ _ _ _ _ => (pe_op op_mulW (pv 1) (pv 8)))) (nomark _)) (pss_one (ps_ret pe_bl)) pss_nil))))) (pss_one (ps_ret pe_bl)))))))), ?_⟩
    have good := effGood_of z0 z3
    unfold effGood at good
    rw [Bool.and_eq_true] at good
    obtain ⟨g1, g2⟩ := good
    have g1 := of_decide_eq_true g1
    rw [List.all_eq_true] at g2
    refine fun S H1 nS e1 dS => ?_
    refine ⟨_, rfl, size, 3, rfl, z0, by omega, Nat.le_refl 3, .inl z3, fun p2 H2 us n2 e2 h2 a2 => ?_⟩
    have ul : us.length ≤ 8788 := by
      rw [a2.1]
      exact listsL_len z0 (by omega) 3
    refine ⟨p2, rfl, ⟨_, sqI h2⟩, for_list (K := K) (a := p2) (xs := us) (fun i σ H' => ∃ kvs v3 v4, σ = [some (.int size), some (.int wd), some (.ref S), v3, v4, none, none, none, none] ∧ Ex H H' ∧ H' p2 = some (.lst us) ∧ AllR (LsR H') us (listsL size 3) ∧ IsDN false K w H' S kvs ∧ DcE H' kvs (((listsL size 3).take i).foldl (stepE size) [])) ⟨[], _, _, rfl, e1.trans e2, h2, a2, (dS false).ex e2, .nil⟩ (fun i σ H' _ ⟨_, _, _, _, _, h, _⟩ => sqI h) ?_ ?_⟩
    · rintro i x σ H3 hi ⟨kvs, v3, v4, rfl, e3, h3, a3, d3, c3⟩
      obtain ⟨t, ht, q, rfl, hq⟩ := a3.get hi
      have tl : t.length ≤ 3 := listsL_size size 3 t (List.mem_of_getElem? ht)
      have il : i < us.length := (List.getElem?_eq_some_iff.mp hi).1
      rw [take_snoc ht, List.foldl_append, List.foldl_cons, List.foldl_nil, stepE_up]
      have dl := foldE_len size ((listsL size 3).take i) []
      have dl2 : ((listsL size 3).take i).length ≤ i := by rw [List.length_take]; exact Nat.min_le_left _ _
      have z00 : ([] : Dt).length = 0 := rfl
      have dm := foldE_mem size ((listsL size 3).take i) []
      generalize ((listsL size 3).take i).foldl (stepE size) [] = d at c3 dl dm ⊢
      refine ⟨_, rfl, _, rfl, size, q, t, rfl, sqI hq, fun p4 H4 n4 e4 h4 => ?_⟩
      generalize lawEff size t = e at h4 ⊢
      have d4 := d3.ex e4
      have c4 : DcE H4 kvs d := dcE_keep c3 fun p xs h => e4 _ _ h
      refine ⟨fun b H' => Ex H4 H' ∧ b = upB d e t, ?_, ?_⟩
      · refine ⟨_, rfl, _, rfl, S, p4, kvs, keyE e, rfl, rfl, d4.rd, nisE (sqT h4), keyE_dep _, _, rfl, ?_⟩
        rcases dcE_get c4 e with ⟨y1, y2⟩ | ⟨u, pc, y1, y2, y3⟩
        · rw [y2]
          refine ifT rfl ⟨Evl.Ex.refl _, ?_⟩
          unfold upB
          rw [y1]
        · rw [y2]
          refine ifF rfl ?_
          have ul3 : u.length ≤ 100 := by
            rcases dm _ (getD_mem y1) with z | z
            · exact Nat.le_trans (listsL_size size 3 u (List.mem_of_mem_take z)) (by decide)
            · cases z
          refine ⟨_, rfl, q, t, rfl, sqI (e4 _ _ hq), by omega, fun p5 H5 n5 e5 h5 => ?_⟩
          refine ⟨_, rfl, _, rfl, S, p4, kvs, keyE e, .ref pc, rfl, rfl, (d4.ex e5).rd, nisE (sqT (e5 _ _ h4)), keyE_dep _, y2, ?_⟩
          refine ⟨pc, u, rfl, sqI (e5 _ _ y3), ul3, fun p6 H6 n6 e6 h6 => ?_⟩
          refine ltKey (e6 _ _ h5) h6 ((e5.trans e6) _ _ (e4 _ _ hq)) ((e5.trans e6) _ _ y3) ⟨_, rfl, e5.trans e6, ?_⟩
          unfold upB
          rw [y1]
      · rintro b H5 ⟨e5, rfl⟩
        have d5 := d4.ex e5
        have c5 : DcE H5 kvs d := dcE_keep c4 fun p xs h => e5 _ _ h
        have e45 := e4.trans e5
        have hq5 := e45 _ _ hq
        refine ifB (fun c => ?_) (fun c => ?_)
        · rw [if_pos c]
          have kl : kvs.length ≤ 8788 := by
            rw [Paired.length c5]
            omega
          refine ⟨_, rfl, _, rfl, _, rfl, S, p4, kvs, keyE e, false, rfl, rfl, d5, nisE (sqT (e5 _ _ h4)), keyE_dep _, Nat.lt_of_le_of_lt kl (by decide), fun H6 x6 d6 => ?_⟩
          have keep : ∀ p xs, H5 p = some (.lst xs) → H6 p = some (.lst xs) := fun p xs h => x6 _ _ (d5.ne_lst h) h
          refine ⟨_, _, _, rfl, ?_, keep _ _ (e45 _ _ h3), ?_, d6, dcE_put (dcE_keep c5 keep) (keep _ _ hq5)⟩
          · exact fun b o hb => x6 _ _ (ne_of_none hb nS) ((e3.trans e45) _ _ hb)
          · exact a3.mono fun v x ⟨p, a, h⟩ => ⟨p, a, keep _ _ (e45 _ _ h)⟩
        · rw [if_neg (by rw [c]; simp)]
          exact ⟨kvs, _, _, rfl, e3.trans e45, e45 _ _ h3, a3.mono fun v x r => r.ex e45, d5, c5⟩
    rintro σ H3 ⟨kvs, v3, v4, rfl, e3, h3, a3, d3, c3⟩
    rw [a2.1, List.take_length] at c3
    have c3 : DcE H3 kvs (bestE size) := c3
    have kl : (kvs.length : Int) = numEff size := by rw [Paired.length c3, g1]
    have kl2 : kvs.length ≤ 8788 := by
      rw [Paired.length c3]
      have := foldE_len size (listsL size 3) []
      have := listsL_len z0 (show size ≤ 6 by omega) 3
      have z00 : ([] : Dt).length = 0 := rfl
      unfold bestE
      omega
    refine ⟨_, rfl, size, rfl, by omega, fun _ => ?_, fun z => by omega⟩
    refine ⟨_, rfl, S, kvs, rfl, d3.rd, rfl, _, rfl, ?_⟩
    refine ifF (nef (by rw [kl])) ?_
    refine ⟨_, rfl, size, rfl, by omega, fun _ => ?_, fun z => by omega⟩
    refine ⟨_, rfl, S, kvs, rfl, d3.rd, rfl, _, rfl, ?_⟩
    refine ifF (nef (by rw [kl])) ?_
    -- far
    have wb : wd.natAbs < 2 ^ 100 := by omega
    have sb : size.natAbs < 2 ^ 2 := by omega
    have wsb : (wd * size).natAbs < 2 ^ 102 := wide_lt (a := 100) (b := 2) wb sb
    have ws0 : 0 ≤ wd * size := Int.mul_nonneg (by omega) z0
    refine ⟨_, rfl, _, rfl, _, _, rfl, rfl, wide_mul (a := 100) (b := 2) wb sb (by decide) (by decide) (by decide), _, _, rfl, rfl, ?_⟩
    have fb : (wd * size + 7).natAbs < 2 ^ 104 := by omega
    have f0 : 0 ≤ wd * size + 7 := by omega
    have nb := numEff_bd f0 fb
    have n6 := numEff_six f0
    refine ⟨_, rfl, wd * size + 7, rfl, by omega, fun _ => ?_, fun z => by omega⟩
    refine ⟨_, _, rfl, rfl, wide_mul (a := 10) (b := 320) (by decide) nb (by decide) (by decide) (by decide), _, rfl, _, _, rfl, rfl, _, _, rfl, rfl, wide_mul (a := 10) (b := 105) (by decide) (by omega) (by decide) (by decide) (by decide), _, rfl, _, rfl, _, _, rfl, rfl, _, _, rfl, rfl, wide_mul (a := 104) (b := 105) fb (by omega) (by decide) (by decide) (by decide), _, rfl, _, _, rfl, rfl, wide_mul (a := 10) (b := 104) (by decide) fb (by decide) (by decide) (by decide), _, _, rfl, rfl, _, _, rfl, rfl, wide_mul (a := 209) (b := 106) (wide_lt (a := 104) (b := 105) fb (by omega)) (by omega) (by decide) (by decide) (by decide), _, _, rfl, rfl, rfl, _, rfl, ?_⟩
    refine ifF (nef (congrArg V.int n6)) ?_
    refine ⟨_, rfl, S, kvs, (bestE size).map fun p => effD p.1, false, rfl, d3.rdB, fun bs pd => dcE_dp c3 pd, alikeE _, sortE _, ?_, fun bs pd p9 H9 n9 e9 h9 => ?_⟩
    · intro d hd
      obtain ⟨q, _, rfl⟩ := List.mem_map.mp hd
      have := (goodT goodI).dep [q.1.1, q.1.2.1, q.1.2.2]
      exact Nat.le_trans this (by decide)
    obtain ⟨ys, hys⟩ : ∃ ys, ys = zsort (bs.map V.ref) ((bestE size).map fun p => effD p.1) := ⟨_, rfl⟩
    rw [← hys] at h9
    refine ⟨p9, rfl, ⟨_, sqI h9⟩, for_list (K := K) (a := p9) (xs := ys) (fun i σ H' => ∃ v4 v6, σ = [some (.int size), some (.int wd), some (.ref S), v3, v4, some (.int (wd * size + 7)), v6, none, none] ∧ Ex H9 H') ⟨_, _, rfl, Evl.Ex.refl _⟩ (fun i σ H' _ ⟨_, _, _, e⟩ => sqI (e _ _ h9)) ?_ ?_⟩
    · rintro i x σ HX hi ⟨v4', v6, rfl, eX⟩
      have hx := zsort_mem (hys ▸ List.mem_of_getElem? hi)
      obtain ⟨b, hb, rfl⟩ := List.mem_map.mp hx
      obtain ⟨j, hj⟩ := List.getElem?_of_mem hb
      obtain ⟨kv, hkv, nb1⟩ := paired_get pd hj
      obtain ⟨q, hq, kq⟩ := dcE_at c3 hkv
      rw [kq] at nb1
      have e3X := e9.trans eX
      have sb3 : SqT K HX b (t3 q.1) := Evl.ex_t e3X (nisE_of nb1)
      obtain ⟨t, ht⟩ := getD_some (List.mem_of_getElem? hq)
      have gq := g2 _ (getD_mem ht)
      rw [Bool.and_eq_true, Bool.and_eq_true, List.all_eq_true] at gq
      obtain ⟨⟨gv, gt⟩, gs⟩ := gq
      have gv : Valid size q.1 := of_decide_eq_true gv
      have gt : tFor size q.1 = t := of_decide_eq_true gt
      have gs2 : ∀ x ∈ t, x.natAbs < 64 := fun x hx => of_decide_eq_true (gs x hx)
      obtain ⟨pc, hval, hpc⟩ : ∃ pc, valV kvs (keyE q.1) = some (.ref pc) ∧ H3 pc = some (.lst (li t)) := by
        rcases dcE_get c3 q.1 with ⟨y1, y2⟩ | ⟨u, pc, y1, y2, y3⟩
        · rw [y1] at ht
          cases ht
        · rw [y1] at ht
          cases ht
          exact ⟨pc, y2, y3⟩
      refine ⟨_, rfl, _, rfl, size, b, q.1, rfl, sb3, fun _ _ p10 H10 n10 e10 h10 => ?_, fun z => by omega, fun _ z => absurd gv z⟩
      have e310 := e3X.trans e10
      refine ⟨_, rfl, _, rfl, S, b, kvs, keyE q.1, .ref pc, rfl, rfl, (d3.ex e310).rd, nisE (Evl.ex_t e10 sb3), keyE_dep _, hval, ?_⟩
      refine neI_ (sqI h10) (sqI (e310 _ _ hpc)) ⟨_, rfl, ifF (by rw [gt]; simp) ?_⟩
      obtain ⟨⟨qs, ql, qu⟩, qt⟩ := q
      obtain ⟨v1, v2, v3', v4'', v5⟩ := id gv
      dsimp only at v1 v2 v3' v4'' v5 sb3 gv gt hval
      have cb : qs.natAbs < 2 ^ 6 ∧ ql.natAbs < 2 ^ 6 ∧ qu.natAbs < 2 ^ 6 := by omega
      have sb10 := Evl.ex_t e10 sb3
      refine ⟨_, rfl, b, rfl, ⟨_, sb10⟩, fun D nD => lc_mapT (K := K) (a := b) (ys := t3 (scE wd (qs, ql, qu))) sb10 nD rfl (by show 3 ≤ sizeLine; decide) (fun x => rfl) ?_ ?_⟩
      · intro i x y H' e' hx hy R kR
        match i, hx, hy with
        | 0, hx, hy =>
          cases hx
          cases hy
          exact ⟨_, rfl, _, rfl, _, _, rfl, rfl, wide_mul (a := 100) (b := 6) wb cb.1 (by decide) (by decide) (by decide), kR H' (Evl.Ex.refl _)⟩
        | 1, hx, hy =>
          cases hx
          cases hy
          exact ⟨_, rfl, _, rfl, _, _, rfl, rfl, wide_mul (a := 100) (b := 6) wb cb.2.1 (by decide) (by decide) (by decide), kR H' (Evl.Ex.refl _)⟩
        | 2, hx, hy =>
          cases hx
          cases hy
          exact ⟨_, rfl, _, rfl, _, _, rfl, rfl, wide_mul (a := 100) (b := 6) wb cb.2.2 (by decide) (by decide) (by decide), kR H' (Evl.Ex.refl _)⟩
      intro H11 e11 d11
      refine ⟨D, _, rfl, sqI d11, fun p12 H12 n12 e12 h12 => ?_⟩
      refine ⟨_, rfl, _, rfl, _, _, rfl, rfl, wide_mul (a := 100) (b := 2) wb sb (by decide) (by decide) (by decide), wd * size, p12, scE wd (qs, ql, qu), rfl, sqT h12, fun _ _ p13 H13 n13 e13 h13 => ?_, fun z => by omega, fun _ z => absurd (valid_sc (by omega) gv) z⟩
      rw [tFor_sc (by omega), gt] at h13
      have e1013 := e11.trans (e12.trans e13)
      have e313 := e310.trans e1013
      refine ⟨_, rfl, _, rfl, _, rfl, S, b, kvs, keyE (qs, ql, qu), .ref pc, rfl, rfl, (d3.ex e313).rd, nisE (Evl.ex_t e1013 sb10), keyE_dep _, hval, ?_⟩
      refine ⟨pc, rfl, ⟨_, sqI (e313 _ _ hpc)⟩, fun D nD => lc_mapL (K := K) (a := pc) (ys := li (scL wd t)) (sqI (e313 _ _ hpc)) nD (by simp [li, scL]) ?_ (fun x => rfl) ?_ ?_⟩
      · rw [List.length_map]
        rcases foldE_mem size (listsL size 3) [] _ (getD_mem ht) with z | z
        · exact Nat.le_trans (listsL_size size 3 t z) (by decide)
        · cases z
      · intro i x y H' e' hx hy R kR
        obtain ⟨u, hu, rfl⟩ := mapI_get hx
        rw [li, scL, List.map_map, List.getElem?_map, hu] at hy
        cases hy
        have hu64 : u.natAbs < 2 ^ 6 := gs2 u (List.mem_of_getElem? hu)
        exact ⟨_, rfl, _, rfl, _, _, rfl, rfl, wide_mul (a := 100) (b := 6) wb hu64 (by decide) (by decide) (by decide), kR H' (Evl.Ex.refl _)⟩
      intro H14 e14 d14
      refine neI_ (sqI (e14 _ _ h13)) (sqI d14) ⟨_, rfl, ifF (by simp) ?_⟩
      exact ⟨_, _, rfl, eX.trans (e10.trans (e1013.trans e14))⟩
    · rintro σ HX ⟨v4', v6, rfl, eX⟩
      exact k HX (e3.trans (e9.trans eX))
end
end K36
set_option Elab.async false
set_option pp.maxSteps 1200
set_option linter.all false
set_option maxRecDepth 100000
set_option maxHeartbeats 4000000
namespace K36
open PySem L2 My
theorem eqT {K : PySem.W.Frag} {H : Hp} {a b : Addr} {xs ys : List Int} {Q : VK} (h1 : SqT K H a (li xs)) (h2 : SqT K H b (li ys)) (q : Q (.bl (decide (xs = ys))) H) : rEqD K (.ref a) (.ref b) H Q := eqE (goodT goodI) (by decide) (.tup h1 (dpI xs)) (.tup h2 (dpI ys)) q
theorem eqT2 {K : PySem.W.Frag} {H : Hp} {a b : Addr} {x y : Two} {Q : VK} (h1 : SqT K H a (t2 x)) (h2 : SqT K H b (t2 y)) (q : Q (.bl (decide (x = y))) H) : rEqD K (.ref a) (.ref b) H Q := by
  refine eqT (xs := [x.1, x.2]) (ys := [y.1, y.2]) h1 h2 ?_
  have : decide ([x.1, x.2] = [y.1, y.2]) = decide (x = y) := by
    rw [decide_eq_decide]
    constructor
    · intro h
      injection h with h1 h
      injection h with h2 h
      exact Prod.ext h1 h2
    · intro h
      rw [h]
  rw [this]
  exact q
def upG (o : Option (List Int)) (t : List Int) : Bool := match o with
  | none => true
  | some b => keyLt t b
theorem stepG_up (R S G : Two) (o : Option (List Int)) (t : List Int) : stepG R S G o t = if (upG o t && decide (ticked R S t = G)) = true then some t else o := by
  unfold stepG upG
  by_cases h : ticked R S t = G
  · cases o with
    | none => simp [h]
    | some b => simp [h]
  · cases o with
    | none => simp [h]
    | some b => simp [h]
def BestV (H : Hp) (v : V) : Option (List Int) → Prop
  | none => v = .non
  | some t => LsR H v t
theorem BestV.ex {H H' : Hp} {v : V} (e : Ex H H') : ∀ {o : Option (List Int)}, BestV H v o → BestV H' v o
  | none, h => h
  | some _, h => LsR.ex e h
theorem stepG_in {R S G : Two} : ∀ (ls : List (List Int)) (o : Option (List Int)) (n : Nat), (∀ t ∈ ls, t.length ≤ n) → (∀ t, o = some t → t.length ≤ n) → ∀ t, ls.foldl (stepG R S G) o = some t → t.length ≤ n
  | [], o, n, _, h, t, e => h t e
  | x :: ls, o, n, h1, h2, t, e => by
    refine stepG_in ls (stepG R S G o x) n (fun t ht => h1 t (List.mem_cons_of_mem _ ht)) (fun u hu => ?_) t e
    rw [stepG_up] at hu
    split at hu
    · cases hu
      exact h1 x List.mem_cons_self
    · exact h2 u hu
def sp__law_goal_right (K : PySem.W.Frag) : Sp := fun vs H Q _ => ∃ (a b c : Addr) (R S G : Two) (wd : Int), vs = [.ref a, .ref b, .ref c, .int wd] ∧ SqT K H a (t2 R) ∧ SqT K H b (t2 S) ∧ SqT K H c (t2 G) ∧ 0 ≤ R.1 ∧ R.1 ≤ 3 ∧ 0 ≤ R.2 ∧ R.2 ≤ 3 ∧ Ok R S ∧ Ok R G ∧ 1 ≤ wd ∧ wd < 2 ^ 100 ∧ Evl.RetV (.bl true) H Q
section
variable {w : World} {K : PySem.W.Frag} {mg : Str → Option Value} {base : Heap}
theorem ok__law_goal_right (T : Txt K mg) : FnOk PR w K mg base CX0 6 T.a__law_goal_right T.d__law_goal_right ["_law_rooms", "_law_scrolls", "_law_goal", "_law_width"] (sp__law_goal_right K) := by
  refine T.f__law_goal_right.ok sc__law_goal_right (fun vs H Q E h => ?_) (fun cdv A outer s H vs Q E hr h => ?_)
  · obtain ⟨a, b, c, R, S, G, wd, rfl, _⟩ := h
    rfl
  · obtain ⟨a, b, c, R, S, G, wd, rfl, ha, hb, hc, r1, r1', r2, r2', okS, okG, w1, w2, k⟩ := h
    refine ⟨_, (pss_cons (ps_set (i := 4) sc__law_goal_right.nd rfl (by first | exact Or.inl rfl | exact Or.inr rfl) pe_non) (pss_cons (ps_for PassesOwn.never rfl (pi_list (pe_call (ok__law_lists T) (hr.mono (by decide)) (by rfl) T.g__law_lists T.f__law_lists.kp (b__law_lists T) .nil pass0 (pa_cons (pe_op op_add (pe_ix ix_tup (pv 0) pe_int (fun _ _ => rfl)) (pe_ix ix_tup (pv 0) pe_int (fun _ _ => rfl))) (pa_cons pe_int pa_nil)))) (pg_name (i := 5) sc__law_goal_right.nd rfl (by first | exact Or.inl rfl | exact Or.inr rfl)) (pss_one (ps_if (pt_cut (PW.pt (pw_and (PW.pt (pw_or (pt_cmpR op_isN (pv 4) pe_non (nomark _)) (pw_or1 (pt_cmpR (op_ltD (u65 hr)) (pe_call (ok__law_key T) (hr.mono (by decide)) (by rfl) T.g__law_key T.f__law_key.kp (b__law_key T) .nil pass0 (pa_cons (pv 5) pa_nil)) (pe_call (ok__law_key T) (hr.mono (by decide)) (by rfl) T.g__law_key T.f__law_key.kp (b__law_key T) .nil pass0 (pa_cons (pv 4) pa_nil)) (nomark _))))) (pw_and1 (pt_cmpR (op_eqD hr.units) (pe_call (ok__law_ticked T) (hr.mono (by decide)) (by rfl) T.g__law_ticked T.f__law_ticked.kp (b__law_ticked T) .nil pass0 (pa_cons (pv 0) (pa_cons (pv 1) (pa_cons (pv 5) pa_nil)))) (pv 2) (nomark _)))))) (pss_one (ps_set (i := 4) sc__law_goal_right.nd rfl (by first | exact Or.inl rfl | exact Or.inr rfl) (pv 5))) pss_nil))) (pss_cons (ps_if (PW.pt (pw_or (pt_cmpR op_isN (pv 4) pe_non (nomark _)) (pw_or1 (pt_cmpR (op_neD hr.units) (pe_call (ok_fewest_turns T) (hr.mono (by decide)) (by rfl) T.g_fewest_turns T.f_fewest_turns.kp (b_fewest_turns T) .nil passL (pa_cons (pv 0) (pa_cons (pv 1) (pa_cons (pv 2) pa_nil)))) (pv 4) (nomark _))))) (pss_one (ps_ret pe_bl)) pss_nil) (pss_cons (ps_setLc (i := 6) (own := [("_law_pair", 8)]) (g := gName 8) (by rfl) sc__law_goal_right.nd rfl rfl (sw_true rfl rfl rfl (by decide +kernel)) (pi_list (pe_lstG (pa_cons (pv 0) (pa_cons (pv 1) (pa_cons (pv 2) pa_nil))))) (blkOk_by (own := [("_law_pair", 8)]) (N := ["_law_rooms", "_law_scrolls", "_law_goal", "_law_width", "_law_best", "_law_turns", "_law_wide", "_law_told", "_law_pair", "_law_turn"]) (sc := (defScope s__law_goal_right)) (by decide +kernel)) (fun _ _ _ _ _ => (pg_name (i := 8) sc__law_goal_right.nd rfl (by first | exact Or.inl rfl | exact Or.inr rfl))) (fun _ _ _ _ _ => pts_nil) (fun _ _ _ _ _ => (pe_tupG (pa_cons (pe_op op_mulW (pv 3) (pe_ix (ixK (r := rIxT) (K := K) (by rfl) ix_tup) (pv 8) pe_int (fun _ _ => rfl))) (pa_cons (pe_op op_mulW (pv 3) (pe_ix (ixK (r := rIxT) (K := K) (by rfl) ix_tup) (pv 8) pe_int (fun _ _ => rfl))) pa_nil))))) (pss_cons (ps_set (i := 7) sc__law_goal_right.nd rfl (by first | exact Or.inl rfl | exact Or.inr rfl) (pe_callK0 (ok_fewest_turns T) (hr.mono (by decide)) (by rfl) T.g_fewest_turns T.f_fewest_turns.kp (kb_fewest_turns_0_goal_scrolls_rooms T) passL (pk_cons (pe_ix ix_list (pv 6) pe_int (fun _ _ => rfl)) (pk_cons (pe_ix ix_list (pv 6) pe_int (fun _ _ => rfl)) (pk_cons (pe_ix ix_list (pv 6) pe_int (fun _ _ => rfl)) pk_nil))))) (pss_one (ps_ret (pe_and (pe_cmpR (op_eqD hr.units) (pv 7) (pe_lc (own := [("_law_turn", 9)]) (g := gName 9) (by rfl) sc__law_goal_right.nd (pi_list (pv 4)) (blkOk_by (own := [("_law_turn", 9)]) (N := ["_law_rooms", "_law_scrolls", "_law_goal", "_law_width", "_law_best", "_law_turns", "_law_wide", "_law_told", "_law_pair", "_law_turn"]) (sc := (defScope s__law_goal_right)) (by decide +kernel)) (fun _ _ _ _ _ => (pg_name (i := 9) sc__law_goal_right.nd rfl (by first | exact Or.inl rfl | exact Or.inr rfl))) (fun _ _ _ _ _ => pts_nil) (fun _ _ _ _ _ => (pe_op op_mulW (pv 3) (pv 9)))) (nomark _)) (pe_one (pe_cmpR (op_eqD hr.units) (pe_call (ok_turned_by T) (hr.mono (by decide)) (by rfl) T.g_turned_by T.f_turned_by.kp (b_turned_by T) .nil passL (pa_cons (pe_ix ix_list (pv 6) pe_int (fun _ _ => rfl)) (pa_cons (pe_ix ix_list (pv 6) pe_int (fun _ _ => rfl)) (pa_cons (pv 7) pa_nil)))) (pe_ix ix_list (pv 6) pe_int (fun _ _ => rfl)) (nomark _))))))))))), ?_⟩
    refine ⟨_, rfl, _, _, _, _, rfl, rfl, ha, at0, _, rfl, _, _, _, _, rfl, rfl, ha, at1, _, _, rfl, rfl, R.1 + R.2, 2, rfl, by omega, by omega, by decide, .inr (Nat.le_refl 2), fun p1 H1 us n1 e1 h1 a1 => ?_⟩
    have hls := listsL_size (R.1 + R.2) 2
    refine ⟨p1, rfl, ⟨_, sqI h1⟩, for_list (K := K) (a := p1) (xs := us) (fun i σ H' => ∃ bv v5, σ = [some (.ref a), some (.ref b), some (.ref c), some (.int wd), some bv, v5, none, none, none, none] ∧ Ex H1 H' ∧ BestV H' bv (((listsL (R.1 + R.2) 2).take i).foldl (stepG R S G) none)) ⟨.non, _, rfl, Evl.Ex.refl _, rfl⟩ (fun i σ H' _ ⟨_, _, _, e, _⟩ => sqI (e _ _ h1)) ?_ ?_⟩
    · rintro i x σ H2 hi ⟨bv, v5, rfl, e2, bb⟩
      obtain ⟨t, ht, q, rfl, hq⟩ := a1.get hi
      have tl : t.length ≤ 2 := hls t (List.mem_of_getElem? ht)
      have bl := stepG_in (R := R) (S := S) (G := G) ((listsL (R.1 + R.2) 2).take i) none 2 (fun t ht => hls t (List.mem_of_mem_take ht)) (fun t z => nomatch z)
      rw [take_snoc ht, List.foldl_append, List.foldl_cons, List.foldl_nil, stepG_up]
      generalize ((listsL (R.1 + R.2) 2).take i).foldl (stepG R S G) none = o at bb bl ⊢
      have hq2 := e2 _ _ hq
      refine ⟨fun b' H' => Ex H2 H' ∧ b' = (upG o t && decide (ticked R S t = G)), ?_, ?_⟩
      · have tail : ∀ H3, Ex H2 H3 → upG o t = true → tTest (tOp (rEqD K) (tCall (sp__law_ticked K) [] E0 (tCons (tVar 0) (tCons (tVar 1) (tCons (tVar 5) tNil)))) (tVar 2)) [some (.ref a), some (.ref b), some (.ref c), some (.int wd), some bv, some (.ref q), none, none, none, none] H3 (fun b' H' => Ex H2 H' ∧ b' = (upG o t && decide (ticked R S t = G))) := by
          intro H3 e3 up
          have e13 := e1.trans (e2.trans e3)
          refine ⟨_, rfl, _, rfl, _, rfl, a, b, q, R, S, t, rfl, Evl.ex_t e13 ha, Evl.ex_t e13 hb, sqI (e3 _ _ hq2), fun p4 H4 n4 e4 h4 => ?_⟩
          refine ⟨_, rfl, eqT2 (sqT h4) (Evl.ex_t (e13.trans e4) hc) ⟨_, rfl, e3.trans e4, ?_⟩⟩
          rw [up]
          rfl
        cases o with
        | none =>
          cases (show bv = .non from bb)
          refine ⟨_, rfl, rfl, _, rfl, ?_⟩
          refine ifT rfl (ifT rfl ?_)
          exact tail H2 (Evl.Ex.refl _) rfl
        | some u =>
          obtain ⟨pb, rfl, hb2⟩ := bb
          have ul := bl u rfl
          refine ⟨_, rfl, rfl, _, rfl, ?_⟩
          refine ifF rfl ?_
          refine ⟨_, rfl, q, t, rfl, sqI hq2, by omega, fun p5 H5 n5 e5 h5 => ?_⟩
          refine ⟨_, rfl, pb, u, rfl, sqI (e5 _ _ hb2), by omega, fun p6 H6 n6 e6 h6 => ?_⟩
          refine ltKey (e6 _ _ h5) h6 ((e5.trans e6) _ _ hq2) ((e5.trans e6) _ _ hb2) ⟨_, rfl, ?_⟩
          cases kl : keyLt t u with
          | true =>
            refine ifT rfl ?_
            exact tail H6 (e5.trans e6) kl
          | false =>
            refine ifF rfl ⟨e5.trans e6, ?_⟩
            show false = (keyLt t u && _)
            rw [kl]
            rfl
      · rintro b' H3 ⟨e3, rfl⟩
        refine ifB (fun c' => ?_) (fun c' => ?_)
        · rw [if_pos c']
          exact ⟨_, rfl, _, _, rfl, e2.trans e3, q, rfl, e3 _ _ hq2⟩
        · rw [if_neg (by rw [c']; simp)]
          exact ⟨bv, _, rfl, e2.trans e3, bb.ex e3⟩
    rintro σ H2 ⟨bv, v5, rfl, e2, bb⟩
    rw [a1.1, List.take_length] at bb
    have bb : BestV H2 bv (bestG R S G) := bb
    rw [bestG_few r1 r1' r2 r2' okS okG] at bb
    obtain ⟨pb, rfl, hpb⟩ := bb
    have e02 := e1.trans e2
    have ha2 := Evl.ex_t e02 ha
    have hb2 := Evl.ex_t e02 hb
    have hc2 := Evl.ex_t e02 hc
    obtain ⟨oS1, oS2, oS3, oS4⟩ := id okS
    obtain ⟨oG1, oG2, oG3, oG4⟩ := id okG
    refine ⟨_, rfl, rfl, _, rfl, ifF rfl ?_⟩
    refine ⟨_, rfl, _, rfl, _, rfl, a, b, c, R, S, G, rfl, ha2, hb2, hc2, fun _ _ _ _ p3 H3 n3 e3 h3 => ?_, fun z => by omega, fun _ z => by omega, fun _ _ z => by omega, fun _ _ _ _ z => by omega, fun _ _ _ z => by omega, fun _ _ _ _ _ z => by omega⟩
    refine ⟨_, rfl, neI_ (sqI h3) (sqI (e3 _ _ hpb)) ⟨_, rfl, ifF (by simp) ?_⟩⟩
    -- wide
    have e03 := e02.trans e3
    refine ⟨_, rfl, _, rfl, _, rfl, (by show 3 ≤ sizeLine; decide), fun p4 H4 n4 e4 h4 => ?_⟩
    have e04 := e03.trans e4
    have hpb4 := (e3.trans e4) _ _ hpb
    have wb : wd.natAbs < 2 ^ 100 := by omega
    have w0 : 0 < wd := by omega
    have all3 : AllR (fun v (y : Two) => ∃ p, v = .ref p ∧ SqT K H4 p (t2 y) ∧ y.1.natAbs < 2 ^ 5 ∧ y.2.natAbs < 2 ^ 5) [.ref a, .ref b, .ref c] [R, S, G] := by
      refine AllR.append (vs := [.ref a]) (xs := [R]) (AllR.one ⟨a, rfl, Evl.ex_t e04 ha, by omega, by omega⟩) (AllR.append (vs := [.ref b]) (xs := [S]) (AllR.one ⟨b, rfl, Evl.ex_t e04 hb, by omega, by omega⟩) (AllR.one ⟨c, rfl, Evl.ex_t e04 hc, by omega, by omega⟩))
    refine ⟨p4, rfl, ⟨_, sqI h4⟩, fun D nD => lc_objL (K := K) (a := p4) (xs := [.ref a, .ref b, .ref c]) (ys := [R, S, G].map (sc wd)) (R := fun H v y => ∃ p, v = .ref p ∧ p ≠ D ∧ H p = some (.tup (t2 y))) (sqI h4) nD rfl (by show 3 ≤ sizeLine; decide) (fun H' H'' v y ⟨p, a, b, c⟩ e => ⟨p, a, b, e _ _ b c⟩) ?_ ?_⟩
    · intro i x y H5 e5 hD5 hx hy N Z kN
      obtain ⟨y0, hy0, p, rfl, hp, b1, b2⟩ := all3.get hx
      rw [List.getElem?_map, hy0] at hy
      cases hy
      have hp5 := Evl.ex_t e5 hp
      refine ⟨rfl, ?_⟩
      show _
      refine ⟨_, rfl, _, rfl, _, _, _, _, rfl, rfl, hp5, at0, _, _, rfl, rfl, wide_mul (a := 100) (b := 5) wb b1 (by decide) (by decide) (by decide), _, rfl, _, rfl, _, _, _, _, rfl, rfl, hp5, at1, _, _, rfl, rfl, wide_mul (a := 100) (b := 5) wb b2 (by decide) (by decide) (by decide), (by show 2 ≤ sizeLine; decide), fun p6 H6 n6 e6 h6 => ?_⟩
      refine kN _ H6 e6 ⟨p6, rfl, ?_, h6⟩
      intro z
      rw [z] at n6
      exact hD5 n6
    intro H5 ws e5 d5 a5
    obtain ⟨v0, hv0, q0, rfl, _, hq0⟩ := a5.row (i := 0) (x := sc wd R) rfl
    obtain ⟨v1, hv1, q1, rfl, _, hq1⟩ := a5.row (i := 1) (x := sc wd S) rfl
    obtain ⟨v2, hv2, q2, rfl, _, hq2⟩ := a5.row (i := 2) (x := sc wd G) rfl
    have g0 : atI ws 0 = some (.ref q0) := atI_nat (j := 0) hv0
    have g1 : atI ws 1 = some (.ref q1) := atI_nat (j := 1) hv1
    have g2 : atI ws 2 = some (.ref q2) := atI_nat (j := 2) hv2
    have okS5 := ok_sc w0 okS
    have okG5 := ok_sc w0 okG
    have m1 : 0 ≤ (sc wd R).1 := Int.mul_nonneg (by omega) r1
    have m2 : 0 ≤ (sc wd R).2 := Int.mul_nonneg (by omega) r2
    have oS5 := id okS5
    have oG5 := id okG5
    unfold Ok at oS5 oG5
    refine ⟨_, rfl, _, _, _, _, rfl, rfl, sqI d5, g2, _, rfl, _, _, _, _, rfl, rfl, sqI d5, g1, _, rfl, _, _, _, _, rfl, rfl, sqI d5, g0, ?_⟩
    refine ⟨q0, q1, q2, sc wd R, sc wd S, sc wd G, rfl, sqT hq0, sqT hq1, sqT hq2, fun _ _ _ _ p6 H6 n6 e6 h6 => ?_, fun z => by omega, fun _ z => by omega, fun _ _ z => by omega, fun _ _ _ _ z => by omega, fun _ _ _ z => by omega, fun _ _ _ _ _ z => by omega⟩
    have e46 := e5.trans e6
    have fl : (few R S G).length ≤ 100 := by
      unfold few nz
      refine Nat.le_trans (List.length_filter_le _ _) ?_
      unfold few0
      split
      · exact (by decide : 2 ≤ 100)
      · split
        · exact (by decide : 2 ≤ 100)
        · exact (by decide : 1 ≤ 100)
    have fb : ∀ u ∈ few R S G, u.natAbs < 2 ^ 6 := by
      intro u hu
      unfold few nz at hu
      have hu := (List.mem_filter.mp hu).1
      unfold few0 at hu
      split at hu
      · rcases List.mem_cons.mp hu with z | z
        · omega
        · have := List.mem_singleton.mp z
          omega
      · split at hu
        · rcases List.mem_cons.mp hu with z | z
          · omega
          · have := List.mem_singleton.mp z
            omega
        · have := List.mem_singleton.mp hu
          omega
    refine ⟨_, rfl, _, rfl, pb, rfl, ⟨_, sqI (e46 _ _ hpb4)⟩, fun D2 nD2 => lc_mapL (K := K) (a := pb) (ys := li (scL wd (few R S G))) (sqI (e46 _ _ hpb4)) nD2 (by simp [li, scL]) ?_ (fun x => rfl) ?_ ?_⟩
    · rw [List.length_map]
      exact Nat.le_trans fl (by decide)
    · intro i x y H' e' hx hy R' kR
      obtain ⟨u, hu, rfl⟩ := mapI_get hx
      rw [li, scL, List.map_map, List.getElem?_map, hu] at hy
      cases hy
      exact ⟨_, rfl, _, rfl, _, _, rfl, rfl, wide_mul (a := 100) (b := 6) wb (fb u (List.mem_of_getElem? hu)) (by decide) (by decide) (by decide), kR H' (Evl.Ex.refl _)⟩
    intro H7 e7 d7
    have h67 := e7 _ _ h6
    have e57 := e6.trans e7
    refine eqI_ (sqI h67) (sqI d7) ⟨_, rfl, ifT (by rw [few_sc w0]; simp) ?_⟩
    refine ⟨_, rfl, _, _, _, _, rfl, rfl, sqI (e57 _ _ d5), g0, _, rfl, _, _, _, _, rfl, rfl, sqI (e57 _ _ d5), g1, _, rfl, ?_⟩
    refine ⟨q0, q1, p6, sc wd R, sc wd S, _, rfl, sqT (e57 _ _ hq0), sqT (e57 _ _ hq1), sqI h67, fun _ _ _ p8 H8 n8 e8 h8 => ?_, fun z => by omega, fun _ z => by omega, fun _ _ z => by omega, fun _ _ _ _ z => by omega⟩
    refine ⟨_, rfl, _, _, _, _, rfl, rfl, sqI ((e57.trans e8) _ _ d5), g2, ?_⟩
    refine eqT2 (sqT h8) (sqT ((e57.trans e8) _ _ hq2)) ?_
    rw [few_leads okS5 okG5, decide_eq_true rfl]
    exact k H8 (e04.trans (e5.trans (e57.trans e8)))
end
end K36
set_option Elab.async false
set_option pp.maxSteps 1200
set_option linter.all false
set_option maxRecDepth 100000
set_option maxHeartbeats 4000000
namespace K36
open PySem L2 My
theorem st_eq {P : L2.St → Prop} {σ σ' : L2.St} (e : σ = σ') (h : P σ') : P σ := e ▸ h
theorem sel2 {u v i : Int} (h0 : 0 ≤ i) (h1 : i < 2) : ∃ x, atI [V.int u, V.int v] i = some (.int x) ∧ (x = u ∨ x = v) := by
  rcases (show i = 0 ∨ i = 1 by omega) with e | e
  · subst e
    exact ⟨u, at0, .inl rfl⟩
  · subst e
    exact ⟨v, at1, .inr rfl⟩
theorem sel4 {u v x y i : Int} (h0 : 0 ≤ i) (h1 : i < 4) : ∃ z, atI [V.int u, V.int v, V.int x, V.int y] i = some (.int z) ∧ (z = u ∨ z = v ∨ z = x ∨ z = y) := by
  rcases (show i = 0 ∨ i = 1 ∨ i = 2 ∨ i = 3 by omega) with e | e | e | e
  · subst e
    exact ⟨u, at0, .inl rfl⟩
  · subst e
    exact ⟨v, at1, .inr (.inl rfl)⟩
  · subst e
    exact ⟨x, at2, .inr (.inr (.inl rfl))⟩
  · subst e
    exact ⟨y, atI_nat (j := 3) rfl, .inr (.inr (.inr rfl))⟩
theorem zd_len (st : List Int) : (zd 0 st).length ≤ st.length := by
  unfold zd
  rw [List.length_map]
  refine Nat.le_trans (List.length_filter_le _ _) ?_
  rw [List.length_zip]
  exact Nat.min_le_left _ _
theorem dec_int (u v : Int) : decide (V.int u = V.int v) = decide (u = v) := by
  rw [decide_eq_decide]
  simp
def sp__law_great_right : Sp := fun vs H Q _ => ∃ (j : Addr) (B : Int), vs = [.ref j] ∧ Jug H j B ∧ B ≤ 2 ^ 50 ∧ ∀ H', Exj j H H' → Jug H' j (B + 20) → Q (.bl true) H'
section
variable {w : World} {K : PySem.W.Frag} {mg : Str → Option Value} {base : Heap}
theorem ok__law_great_right (T : Txt K mg) : FnOk PR w K mg base CX0 6 T.a__law_great_right T.d__law_great_right ["_law_jug_here"] sp__law_great_right := by
  refine T.f__law_great_right.ok sc__law_great_right (fun vs H Q E h => ?_) (fun cdv A outer s H vs Q E hr h => ?_)
  · obtain ⟨j, B, rfl, _⟩ := h
    rfl
  · obtain ⟨j, B, rfl, hj, hB, k⟩ := h
    refine ⟨_, (pss_cons (ps_set (i := 1) sc__law_great_right.nd rfl (by first | exact Or.inl rfl | exact Or.inr rfl) (pe_op op_add (pe_op op_powW pe_int pe_int) (pe_call (ok__law_pour T) (hr.mono (by decide)) (by rfl) T.g__law_pour T.f__law_pour.kp (b__law_pour T) .nil pass0 (pa_cons (pv 0) (pa_cons (pe_op op_powW pe_int pe_int) pa_nil))))) (pss_cons (ps_par (by rfl) sc__law_great_right.nd rfl rfl (by decide) rfl rfl (i := 2) (j := 3) (pa_cons (pe_ix ix_list (pe_lstG (pa_cons pe_int (pa_cons (pe_call (ok__law_pour T) (hr.mono (by decide)) (by rfl) T.g__law_pour T.f__law_pour.kp (b__law_pour T) .nil pass0 (pa_cons (pv 0) (pa_cons (pe_op op_powW pe_int pe_int) pa_nil))) pa_nil))) (pe_call (ok__law_pour T) (hr.mono (by decide)) (by rfl) T.g__law_pour T.f__law_pour.kp (b__law_pour T) .nil pass0 (pa_cons (pv 0) (pa_cons pe_int pa_nil))) (fun _ _ => rfl)) (pa_cons (pe_ix ix_list (pe_lstG (pa_cons pe_int (pa_cons (pe_call (ok__law_pour T) (hr.mono (by decide)) (by rfl) T.g__law_pour T.f__law_pour.kp (b__law_pour T) .nil pass0 (pa_cons (pv 0) (pa_cons (pe_op op_powW pe_int pe_int) pa_nil))) pa_nil))) (pe_call (ok__law_pour T) (hr.mono (by decide)) (by rfl) T.g__law_pour T.f__law_pour.kp (b__law_pour T) .nil pass0 (pa_cons (pv 0) (pa_cons pe_int pa_nil))) (fun _ _ => rfl)) pa_nil)) (by rfl)) (pss_cons (ps_set (i := 4) sc__law_great_right.nd rfl (by first | exact Or.inl rfl | exact Or.inr rfl) (pe_op op_sub (pe_call (ok__law_pour T) (hr.mono (by decide)) (by rfl) T.g__law_pour T.f__law_pour.kp (b__law_pour T) .nil pass0 (pa_cons (pv 0) (pa_cons (pe_op op_add (pe_op op_add (pv 2) (pv 3)) pe_int) pa_nil))) (pv 2))) (pss_cons (ps_set (i := 4) sc__law_great_right.nd rfl (by first | exact Or.inl rfl | exact Or.inr rfl) (pe_ix ix_list (pe_lstG (pa_cons (pv 4) (pa_cons (pv 4) (pa_cons (pe_op op_sub pe_int (pv 2)) (pa_cons (pv 3) pa_nil))))) (pe_call (ok__law_pour T) (hr.mono (by decide)) (by rfl) T.g__law_pour T.f__law_pour.kp (b__law_pour T) .nil pass0 (pa_cons (pv 0) (pa_cons pe_int pa_nil))) (fun _ _ => rfl))) (pss_cons (ps_set (i := 5) sc__law_great_right.nd rfl (by first | exact Or.inl rfl | exact Or.inr rfl) (pe_tupG (pa_cons (pv 4) (pa_cons (pe_op op_add (pv 2) (pv 4)) (pa_cons (pe_op op_add (pe_op op_sub (pv 1) (pv 3)) (pv 4)) pa_nil))))) (pss_cons (ps_set (i := 6) sc__law_great_right.nd rfl (by first | exact Or.inl rfl | exact Or.inr rfl) pe_non) (pss_cons (ps_for PassesOwn.never rfl (pi_list (pe_lstG (pa_cons (pe_lstG (pa_cons (pv 4) pa_nil)) (pa_cons (pe_lstG (pa_cons (pv 3) (pa_cons (pv 4) pa_nil))) (pa_cons (pe_lstG (pa_cons (pe_op op_sub pe_int (pv 2)) (pa_cons (pv 4) pa_nil))) (pa_cons (pe_lstG (pa_cons (pv 3) (pa_cons (pe_op op_sub pe_int (pv 2)) (pa_cons (pv 4) pa_nil)))) (pa_cons (pe_lstG (pa_cons (pe_op op_sub pe_int (pv 2)) (pa_cons (pv 3) (pa_cons (pv 4) pa_nil)))) pa_nil))))))) (pg_name (i := 7) sc__law_great_right.nd rfl (by first | exact Or.inl rfl | exact Or.inr rfl)) (pss_cons (ps_setLc (i := 8) (own := [("_law_stop", 13), ("_law_other", 14)]) (g := (gTup K 2 (gCons (gName 13) (gCons (gName 14) gNil)))) (by rfl) sc__law_great_right.nd rfl rfl (sw_true rfl rfl rfl (by decide +kernel)) (pi_zip (by rfl) T.z_zip (pa_cons (pv 7) (pa_cons (pe_op op_catG (pe_lstG (pa_cons pe_int pa_nil)) (pv 7)) pa_nil))) (blkOk_by (own := [("_law_stop", 13), ("_law_other", 14)]) (N := ["_law_jug_here", "_law_size", "_law_below", "_law_above", "_law_shift", "_law_effect_here", "_law_best", "_law_stops", "_law_turns", "_law_rooms", "_law_more", "_law_here", "_law_goal", "_law_stop", "_law_other", "_law_turn"]) (sc := (defScope s__law_great_right)) (by decide +kernel)) (fun _ _ _ _ _ => (pg_tup rfl (pgs_cons (pg_name (i := 13) sc__law_great_right.nd rfl (by first | exact Or.inl rfl | exact Or.inr rfl)) (pgs_cons (pg_name (i := 14) sc__law_great_right.nd rfl (by first | exact Or.inl rfl | exact Or.inr rfl)) pgs_nil)))) (fun _ _ _ _ _ => (pts_one (pt_cmpR op_ne (pv 13) (pv 14) (nomark _)))) (fun _ _ _ _ _ => (pe_op op_sub (pv 13) (pv 14)))) (pss_one (ps_if (PW.pt (pw_and (pt_cmpR op_eq (pe_callB (cr_min rfl) (by rfl) T.z_min (by decide +kernel) (pa_cons (pe_op op_catG (pe_lstG (pa_cons pe_int pa_nil)) (pv 7)) pa_nil)) (pe_op op_sub pe_int (pv 2)) (nomark _)) (pw_and1 (pt_cmpR op_eq (pe_callB (cr_max rfl) (by rfl) T.z_max (by decide +kernel) (pa_cons (pe_op op_catG (pe_lstG (pa_cons pe_int pa_nil)) (pv 7)) pa_nil)) (pv 3) (nomark _))))) (pss_one (ps_set (i := 6) sc__law_great_right.nd rfl (by first | exact Or.inl rfl | exact Or.inr rfl) (pe_cut (pe_ifExp (PW.pt (pw_or (pt_cmpR op_isN (pv 6) pe_non (nomark _)) (pw_or1 (pt_cmpR (op_ltD (u65 hr)) (pe_call (ok__law_key T) (hr.mono (by decide)) (by rfl) T.g__law_key T.f__law_key.kp (b__law_key T) .nil pass0 (pa_cons (pv 8) pa_nil)) (pe_call (ok__law_key T) (hr.mono (by decide)) (by rfl) T.g__law_key T.f__law_key.kp (b__law_key T) .nil pass0 (pa_cons (pv 6) pa_nil)) (nomark _))))) (pv 8) (pv 6))))) pss_nil)))) (pss_cons (ps_if (pt_cmpR (op_neD hr.units) (pe_call (ok_turns_for T) (hr.mono (by decide)) (by rfl) T.g_turns_for T.f_turns_for.kp (b_turns_for T) .nil passL (pa_cons (pv 1) (pa_cons (pv 5) pa_nil))) (pv 6) (nomark _)) (pss_one (ps_ret pe_bl)) pss_nil) (pss_cons (ps_par (by rfl) sc__law_great_right.nd rfl rfl (by decide) rfl rfl (i := 9) (j := 10) (pa_cons (pe_tupG (pa_cons (pv 1) (pa_cons (pe_call (ok__law_pour T) (hr.mono (by decide)) (by rfl) T.g__law_pour T.f__law_pour.kp (b__law_pour T) .nil pass0 (pa_cons (pv 0) (pa_cons (pe_op op_powW pe_int pe_int) pa_nil))) pa_nil))) (pa_cons (pe_call (ok__law_pour T) (hr.mono (by decide)) (by rfl) T.g__law_pour T.f__law_pour.kp (b__law_pour T) .nil pass0 (pa_cons (pv 0) (pa_cons (pe_op op_powW pe_int pe_int) pa_nil))) pa_nil)) (by rfl)) (pss_cons (ps_par (by rfl) sc__law_great_right.nd rfl rfl (by decide) rfl rfl (i := 11) (j := 12) (pa_cons (pe_tupG (pa_cons (pe_call (ok__law_pour T) (hr.mono (by decide)) (by rfl) T.g__law_pour T.f__law_pour.kp (b__law_pour T) .nil pass0 (pa_cons (pv 0) (pa_cons (pv 1) pa_nil))) (pa_cons (pe_call (ok__law_pour T) (hr.mono (by decide)) (by rfl) T.g__law_pour T.f__law_pour.kp (b__law_pour T) .nil pass0 (pa_cons (pv 0) (pa_cons (pe_op op_add (pe_ix ix_tup (pv 9) pe_int (fun _ _ => rfl)) pe_int) pa_nil))) pa_nil))) (pa_cons (pe_tupG (pa_cons (pe_call (ok__law_pour T) (hr.mono (by decide)) (by rfl) T.g__law_pour T.f__law_pour.kp (b__law_pour T) .nil pass0 (pa_cons (pv 0) (pa_cons (pv 1) pa_nil))) (pa_cons (pe_callB (call_min2 rfl) (by rfl) T.z_min (by decide +kernel) (pa_cons (pv 10) (pa_cons (pe_ix ix_tup (pv 9) pe_int (fun _ _ => rfl)) pa_nil))) pa_nil))) pa_nil)) (by rfl)) (pss_cons (ps_set (i := 8) sc__law_great_right.nd rfl (by first | exact Or.inl rfl | exact Or.inr rfl) (pe_lstG (pa_cons (pe_op op_sub (pe_ix ix_tup (pv 12) pe_int (fun _ _ => rfl)) (pe_ix ix_tup (pv 11) pe_int (fun _ _ => rfl))) pa_nil))) (pss_cons (ps_cut (ps_if (pt_cmpR op_lt (pe_ix ix_tup (pv 11) pe_int (fun _ _ => rfl)) (pe_ix ix_tup (pv 12) pe_int (fun _ _ => rfl)) (nomark _)) (pss_one (ps_set (i := 8) sc__law_great_right.nd rfl (by first | exact Or.inl rfl | exact Or.inr rfl) (pe_lstG (pa_cons (pe_op op_sub (pe_op op_add (pe_op op_sub (pv 1) (pe_ix ix_tup (pv 11) pe_int (fun _ _ => rfl))) (pe_ix ix_tup (pv 12) pe_int (fun _ _ => rfl))) (pe_ix ix_tup (pv 11) pe_int (fun _ _ => rfl))) (pa_cons (pe_op op_sub (pe_ix ix_tup (pv 12) pe_int (fun _ _ => rfl)) (pv 1)) pa_nil))))) (pss_one (ps_if (pt_cmpR op_gt (pe_ix ix_tup (pv 11) pe_int (fun _ _ => rfl)) (pe_ix ix_tup (pv 12) pe_int (fun _ _ => rfl)) (nomark _)) (pss_one (ps_set (i := 8) sc__law_great_right.nd rfl (by first | exact Or.inl rfl | exact Or.inr rfl) (pe_lstG (pa_cons (pe_op op_sub (pe_op op_sub (pe_ix ix_tup (pv 12) pe_int (fun _ _ => rfl)) (pe_ix ix_tup (pv 11) pe_int (fun _ _ => rfl))) (pe_ix ix_tup (pv 11) pe_int (fun _ _ => rfl))) (pa_cons (pe_ix ix_tup (pv 12) pe_int (fun _ _ => rfl)) pa_nil))))) pss_nil)))) (pss_one (ps_ret (pe_cmpR (op_eqD hr.units) (pe_call (ok_fewest_turns T) (hr.mono (by decide)) (by rfl) T.g_fewest_turns T.f_fewest_turns.kp (b_fewest_turns T) .nil passL (pa_cons (pv 9) (pa_cons (pv 11) (pa_cons (pv 12) pa_nil)))) (pe_lc (own := [("_law_turn", 15)]) (g := gName 15) (by rfl) sc__law_great_right.nd (pi_list (pv 8)) (blkOk_by (own := [("_law_turn", 15)]) (N := ["_law_jug_here", "_law_size", "_law_below", "_law_above", "_law_shift", "_law_effect_here", "_law_best", "_law_stops", "_law_turns", "_law_rooms", "_law_more", "_law_here", "_law_goal", "_law_stop", "_law_other", "_law_turn"]) (sc := (defScope s__law_great_right)) (by decide +kernel)) (fun _ _ _ _ _ => (pg_name (i := 15) sc__law_great_right.nd rfl (by first | exact Or.inl rfl | exact Or.inr rfl))) (fun _ _ _ _ _ => (pts_one (pt_cmpR op_ne (pv 15) pe_int (nomark _)))) (fun _ _ _ _ _ => (pv 15))) (nomark _)))))))))))))))), ?_⟩
    have t29 : ((10 : Int) ^ (29 : Int).toNat) = 100000000000000000000000000000 := by decide +kernel
    have t28 : ((10 : Int) ^ (28 : Int).toNat) = 10000000000000000000000000000 := by decide +kernel
    have c29 : CPowW 10 29 := by constructor <;> decide +kernel
    have c28 : CPowW 10 28 := by constructor <;> decide +kernel
    refine ⟨_, _, rfl, rfl, c29, _, rfl, _, _, rfl, rfl, c29, j, _, B, rfl, hj, by omega, by omega, by omega, fun n H1 n0 n1 e1 j1 => ?_⟩
    refine ⟨_, _, rfl, rfl, ?_⟩
    -- below, above
    refine ⟨_, rfl, _, _, rfl, rfl, c28, j, _, _, rfl, j1, by omega, by omega, by omega, fun m1 H2 m10 m11 e2 j2 => ?_⟩
    refine ⟨(by show 2 ≤ sizeLine; decide), fun p1 H3 n3 e3 h3 => ?_⟩
    have j3 := j2.ex e3
    have p1j := j2.ne n3
    refine ⟨_, rfl, j, _, _, rfl, j3, by omega, by decide, by decide, fun i1 H4 i10 i11 e4 j4 => ?_⟩
    obtain ⟨b, hb, hb2⟩ := sel2 (u := 0) (v := m1) i10 i11
    refine ⟨_, _, _, _, rfl, rfl, sqI (e4 _ _ p1j h3), hb, _, rfl, _, _, rfl, rfl, c28, j, _, _, rfl, j4, by omega, by omega, by omega, fun m2 H5 m20 m21 e5 j5 => ?_⟩
    refine ⟨(by show 2 ≤ sizeLine; decide), fun p2 H6 n6 e6 h6 => ?_⟩
    have j6 := j5.ex e6
    have p2j := j5.ne n6
    refine ⟨_, rfl, j, _, _, rfl, j6, by omega, by decide, by decide, fun i2 H7 i20 i21 e7 j7 => ?_⟩
    obtain ⟨a, ha, ha2⟩ := sel2 (u := 0) (v := m2) i20 i21
    refine ⟨_, _, _, _, rfl, rfl, sqI (e7 _ _ p2j h6), ha, _, _, rfl, ?_⟩
    have y7 : Exj j H H7 := e1.trans (e2.trans ((Exj.of e3).trans (e4.trans (e5.trans ((Exj.of e6).trans e7)))))
    have b0 : 0 ≤ b := by omega
    have a0 : 0 ≤ a := by omega
    have b1 : b < 10000000000000000000000000000 := by omega
    have a1 : a < 10000000000000000000000000000 := by omega
    -- shift
    refine ⟨_, rfl, _, rfl, _, rfl, _, _, rfl, rfl, _, _, rfl, rfl, j, _, _, rfl, j7, by omega, by omega, by omega, fun s0 H8 s00 s01 e8 j8 => ?_⟩
    refine ⟨_, rfl, _, _, rfl, rfl, ?_⟩
    refine ⟨_, rfl, _, rfl, _, rfl, _, _, rfl, rfl, _, rfl, (by show 4 ≤ sizeLine; decide), fun p3 H9 n9 e9 h9 => ?_⟩
    have j9 := j8.ex e9
    have p3j := j8.ne n9
    refine ⟨_, rfl, j, _, _, rfl, j9, by omega, by decide, by decide, fun i3 H10 i30 i31 e10 j10 => ?_⟩
    obtain ⟨s, hs, hs2⟩ := sel4 (u := s0 - b) (v := s0 - b) (x := 0 - b) (y := a) i30 i31
    refine ⟨_, _, _, _, rfl, rfl, sqI (e10 _ _ p3j h9), hs, ?_⟩
    have y10 : Exj j H H10 := y7.trans (e8.trans ((Exj.of e9).trans e10))
    have s1 : 0 - b ≤ s := by omega
    have s2 : s ≤ a := by omega
    obtain ⟨size, hsize⟩ : ∃ z, z = (10 : Int) ^ (29 : Int).toNat + n := ⟨_, rfl⟩
    have z1 : 100000000000000000000000000000 ≤ size := by omega
    have z2 : size < 200000000000000000000000000000 := by omega
    refine st_eq (σ' := [some (.ref j), some (.int size), some (.int b), some (.int a), some (.int (s0 - b)), none, none, none, none, none, none, none, none, none, none, none]) (P := fun σ => gName 4 (V.int s) σ H10 _) (by rw [hsize]; rfl) ?_
    clear hsize hs hs2 hb hb2 ha ha2
    -- effect
    refine ⟨_, rfl, _, rfl, _, rfl, _, _, rfl, rfl, _, rfl, _, rfl, _, _, rfl, rfl, _, rfl, _, _, rfl, rfl, (by show 3 ≤ sizeLine; decide), fun p5 H11 n11 e11 h11 => ?_⟩
    -- stops
    refine ⟨_, rfl, (by show 1 ≤ sizeLine; decide), fun q1 H12 n12 e12 h12 => ?_⟩
    refine ⟨_, rfl, _, rfl, (by show 2 ≤ sizeLine; decide), fun q2 H13 n13 e13 h13 => ?_⟩
    refine ⟨_, rfl, _, _, rfl, rfl, _, rfl, (by show 2 ≤ sizeLine; decide), fun q3 H14 n14 e14 h14 => ?_⟩
    refine ⟨_, rfl, _, rfl, _, _, rfl, rfl, _, rfl, (by show 3 ≤ sizeLine; decide), fun q4 H15 n15 e15 h15 => ?_⟩
    refine ⟨_, rfl, _, _, rfl, rfl, _, rfl, _, rfl, (by show 3 ≤ sizeLine; decide), fun q5 H16 n16 e16 h16 => ?_⟩
    refine ⟨(by show 5 ≤ sizeLine; decide), fun L H17 n17 e17 h17 => ?_⟩
    have e1317 := e14.trans (e15.trans (e16.trans e17))
    have all5 : AllR (LsR H17) [.ref q1, .ref q2, .ref q3, .ref q4, .ref q5] (cands b a s) := by
      refine AllR.append (vs := [.ref q1]) (xs := [_]) (AllR.one ⟨q1, rfl, (e13.trans e1317) _ _ h12⟩) ?_
      refine AllR.append (vs := [.ref q2]) (xs := [_]) (AllR.one ⟨q2, rfl, e1317 _ _ h13⟩) ?_
      refine AllR.append (vs := [.ref q3]) (xs := [_]) (AllR.one ⟨q3, rfl, (e15.trans (e16.trans e17)) _ _ h14⟩) ?_
      refine AllR.append (vs := [.ref q4]) (xs := [_]) (AllR.one ⟨q4, rfl, (e16.trans e17) _ _ h15⟩) ?_
      exact AllR.one ⟨q5, rfl, e17 _ _ h16⟩
    have e1017 : Ex H10 H17 := e11.trans (e12.trans (e13.trans e1317))
    have h11' := (e12.trans (e13.trans e1317)) _ _ h11
    have cl : ∀ st ∈ cands b a s, st.length ≤ 3 := by
      intro st hst
      unfold cands at hst
      simp only [List.mem_cons, List.not_mem_nil, or_false] at hst
      rcases hst with z | z | z | z | z <;> subst z <;> simp
    refine ⟨_, rfl, ⟨_, sqI h17⟩, for_list (K := K) (a := L) (xs := [.ref q1, .ref q2, .ref q3, .ref q4, .ref q5]) (fun i σ H' => ∃ bv v7 v8, σ = [some (.ref j), some (.int size), some (.int b), some (.int a), some (.int s), some (.ref p5), some bv, v7, v8, none, none, none, none, none, none, none] ∧ Ex H17 H' ∧ BestV H' bv (((cands b a s).take i).foldl (stepZ b a) none) ∧ ∀ c, ((cands b a s).take i).foldl (stepZ b a) none = some c → c.length ≤ 100) ⟨.non, _, _, rfl, Evl.Ex.refl _, rfl, fun c z => nomatch z⟩ (fun i σ H' _ ⟨_, _, _, _, e, _⟩ => sqI (e _ _ h17)) ?_ ?_⟩
    · rintro i x σ K1 hix ⟨bv, v7, v8, rfl, x1, bb, bl⟩
      obtain ⟨st, hst, q, rfl, hq⟩ := all5.get hix
      have sl := cl st (List.mem_of_getElem? hst)
      rw [take_snoc hst, List.foldl_append, List.foldl_cons, List.foldl_nil]
      generalize ((cands b a s).take i).foldl (stepZ b a) none = o at bb bl ⊢
      have hq1 := x1 _ _ hq
      -- turns
      refine ⟨_, rfl, (by show 1 ≤ sizeLine; decide), fun r1 K2 m2 x2 g2 => ?_⟩
      refine ⟨_, rfl, _, _, _, _, rfl, rfl, g2, x2 _ _ hq1, ?_, fun r2 K3 m3 x3 g3 => ?_⟩
      · rw [List.length_map]
        exact Nat.le_trans (show 1 + st.length ≤ 4 by omega) (by decide)
      have g3 : K3 r2 = some (.lst (li (0 :: st))) := g3
      have hq3 := (x2.trans x3) _ _ hq1
      refine ⟨q, r2, _, _, rfl, sqI hq3, sqI g3, fun D nD => lc_it (walk_zip (K := K) (a := q) (b := r2) (xs := li st) (ys := li (0 :: st)) rfl) (fun i H' => Ex K3 H' ∧ H' D = some (.lst (li ((((st.zip (0 :: st)).take i).filter fun p => !decide (p.1 = p.2)).map fun p => p.1 - p.2)))) ⟨Evl.Ex.new nD, upd_same⟩ (fun i H' _ ⟨e, _⟩ => ⟨sqI (e _ _ hq3), sqI (e _ _ g3)⟩) ?_ ?_⟩
      · rintro i' x HX H' hi' ⟨e, d⟩ ⟨Tt, u1, u2, rfl, nT, rfl, hx1, hy1⟩
        obtain ⟨u, hu, rfl⟩ := mapI_get hx1
        obtain ⟨v, hv, rfl⟩ := mapI_get hy1
        have hz : (st.zip (0 :: st))[i']? = some (u, v) := List.getElem?_zip_eq_some.mpr ⟨hu, hv⟩
        have TD : Tt ≠ D := fun z => by
          rw [z, d] at nT
          cases nT
        refine ⟨_, _, rfl, sqT upd_same, rfl, _, _, rfl, _, _, rfl, rfl, rfl, ?_⟩
        show _
        refine ⟨_, rfl, _, rfl, rfl, _, rfl, ?_⟩
        rw [dec_int]
        have dU : upd HX Tt (.tup [.int u, .int v]) D = some (.lst (li ((((st.zip (0 :: st)).take i').filter fun p => !decide (p.1 = p.2)).map fun p => p.1 - p.2))) := by
          rw [upd_ne TD.symm]
          exact d
        have eU : Ex K3 (upd HX Tt (.tup [.int u, .int v])) := e.trans (Evl.Ex.new nT)
        have i3 : i' < 3 := by
          have := (List.getElem?_eq_some_iff.mp hu).1
          omega
        refine ifB (fun c => ?_) (fun c => ?_)
        · refine ⟨_, rfl, _, rfl, _, _, rfl, rfl, _, dU, ?_, Evl.Ex.mut eU nD, ?_⟩
          · rw [List.length_map, List.length_map]
            refine Nat.lt_of_le_of_lt (Nat.le_trans (List.length_filter_le _ _) (by rw [List.length_take]; exact Nat.min_le_left _ _)) ?_
            exact Nat.lt_of_lt_of_le i3 (by decide)
          · rw [upd_same, take_snoc hz, List.filter_append, List.map_append]
            have : List.filter (fun p : Int × Int => !decide (p.1 = p.2)) [(u, v)] = [(u, v)] := by
              rw [List.filter_cons, if_pos c]
              rfl
            rw [this]
            unfold li
            rw [List.map_append]
            rfl
        · refine ⟨eU, ?_⟩
          rw [dU, take_snoc hz, List.filter_append]
          have : List.filter (fun p : Int × Int => !decide (p.1 = p.2)) [(u, v)] = [] := by
            rw [List.filter_cons, if_neg (by rw [c]; simp)]
            rfl
          rw [this, List.append_nil]
      rintro K4 ⟨x4, d4⟩
      have hlz : ((st.zip (0 :: st)).take (min (li st).length (li (0 :: st)).length)) = st.zip (0 :: st) := by
        refine List.take_of_length_le ?_
        rw [List.length_zip, List.length_map, List.length_map]
        exact Nat.le_refl _
      rw [hlz] at d4
      have d4 : K4 D = some (.lst (li (zd 0 st))) := d4
      have hq4 := x4 _ _ hq3
      have x14 := x2.trans (x3.trans x4)
      -- min, max
      refine ⟨(by show 1 ≤ sizeLine; decide), fun r5 K5 m5 x5 g5 => ?_⟩
      refine ⟨_, rfl, _, _, _, _, rfl, rfl, g5, x5 _ _ hq4, ?_, fun r6 K6 m6 x6 g6 => ?_⟩
      · rw [List.length_map]
        exact Nat.le_trans (show 1 + st.length ≤ 4 by omega) (by decide)
      have g6 : K6 r6 = some (.lst (li (0 :: st))) := g6
      refine ⟨r6, 0 :: st, rfl, sqI g6, by simp, fun m hm hle => ?_⟩
      have em : m = lo st := Int.le_antisymm (hle _ (lo_mem st)) (lo_le st _ hm)
      subst em
      refine ⟨_, rfl, _, _, rfl, rfl, rfl, _, rfl, ?_⟩
      rw [dec_int]
      have x16 := x14.trans (x5.trans x6)
      refine ifB (fun c1 => ?_) (fun c1 => ?_)
      · have c1' : lo st = 0 - b := of_decide_eq_true c1
        refine ⟨(by show 1 ≤ sizeLine; decide), fun r7 K7 m7 x7 g7 => ?_⟩
        refine ⟨_, rfl, _, _, _, _, rfl, rfl, g7, (x5.trans (x6.trans x7)) _ _ hq4, ?_, fun r8 K8 m8 x8 g8 => ?_⟩
        · rw [List.length_map]
          exact Nat.le_trans (show 1 + st.length ≤ 4 by omega) (by decide)
        have g8 : K8 r8 = some (.lst (li (0 :: st))) := g8
        refine ⟨r8, 0 :: st, rfl, sqI g8, by simp, fun m hm hle => ?_⟩
        have em : m = hi st := Int.le_antisymm (hi_ge st _ hm) (hle _ (hi_mem st))
        subst em
        refine ⟨_, rfl, rfl, _, rfl, ?_⟩
        rw [dec_int]
        have x48 := x5.trans (x6.trans (x7.trans x8))
        have x18 := x14.trans x48
        refine ifB (fun c2 => ?_) (fun c2 => ?_)
        · have c2' : hi st = a := of_decide_eq_true c2
          have d8 := x48 _ _ d4
          have zl : (zd 0 st).length ≤ 100 := Nat.le_trans (zd_len st) (by omega)
          refine ⟨fun v' H' => Ex K8 H' ∧ BestV H' v' (stepZ b a o st), ?_, ?_⟩
          · unfold stepZ
            rw [if_pos ⟨c1', c2'⟩]
            cases o with
            | none =>
              cases (show bv = .non from bb)
              refine ⟨_, rfl, rfl, _, rfl, ?_⟩
              refine ifT rfl (ifT rfl ?_)
              exact ⟨_, rfl, Evl.Ex.refl _, D, rfl, d8⟩
            | some c =>
              obtain ⟨pb, rfl, hpb⟩ := bb
              have hpb8 := x18 _ _ hpb
              refine ⟨_, rfl, rfl, _, rfl, ?_⟩
              refine ifF rfl ?_
              refine ⟨_, rfl, D, zd 0 st, rfl, sqI d8, zl, fun r9 K9 m9 x9 g9 => ?_⟩
              refine ⟨_, rfl, pb, c, rfl, sqI (x9 _ _ hpb8), bl c rfl, fun r10 K10 m10 x10 g10 => ?_⟩
              have x810 := x9.trans x10
              refine ltKey (x10 _ _ g9) g10 (x810 _ _ d8) (x810 _ _ hpb8) ⟨_, rfl, ?_⟩
              dsimp only
              cases kl : keyLt (zd 0 st) c with
              | true =>
                refine ifT rfl ?_
                rw [if_pos rfl]
                exact ⟨_, rfl, x810, D, rfl, x810 _ _ d8⟩
              | false =>
                refine ifF rfl ?_
                rw [if_neg (by simp)]
                exact ⟨_, rfl, x810, pb, rfl, x810 _ _ hpb8⟩
          · rintro v' K9 ⟨x9, bb9⟩
            refine ⟨v', _, _, rfl, x1.trans (x18.trans x9), bb9, fun c hc => ?_⟩
            unfold stepZ at hc
            rw [if_pos ⟨c1', c2'⟩] at hc
            cases o with
            | none =>
              cases hc
              exact zl
            | some c' =>
              dsimp only at hc
              split at hc
              · cases hc
                exact zl
              · exact bl c hc
        · have c2' : ¬ hi st = a := of_decide_eq_false c2
          rw [stepZ_no (fun z => c2' z.2)]
          exact ⟨bv, _, _, rfl, x1.trans x18, bb.ex x18, bl⟩
      · have c1' : ¬ lo st = 0 - b := of_decide_eq_false c1
        rw [stepZ_no (fun z => c1' z.1)]
        exact ⟨bv, _, _, rfl, x1.trans x16, bb.ex x16, bl⟩
    rintro σ K1 ⟨bv, v7, v8, rfl, x1, bb, _⟩
    have bb : BestV K1 bv ((cands b a s).foldl (stepZ b a) none) := bb
    rw [great b0 a0 s1 s2 (show a + b < size by omega)] at bb
    obtain ⟨pb, rfl, hpb⟩ := bb
    have vd : Valid size (s, b + s, size - a + s) := by
      unfold Valid
      dsimp only
      omega
    refine ⟨_, rfl, _, rfl, size, p5, (s, b + s, size - a + s), rfl, sqT (x1 _ _ h11'), fun _ _ r2 K2 m2 x2 g2 => ?_, fun z => by omega, fun _ z => absurd vd z⟩
    refine ⟨_, rfl, neI_ (sqI g2) (sqI (x2 _ _ hpb)) ⟨_, rfl, ifF (by simp) ?_⟩⟩
    have y12 : Exj j H K2 := y10.trans (Exj.of (e1017.trans (x1.trans x2)))
    have jk2 := j10.ex (e1017.trans (x1.trans x2))
    -- rooms, more
    refine ⟨_, rfl, _, rfl, _, _, rfl, rfl, c29, j, _, _, rfl, jk2, by omega, by omega, by omega, fun u1 K3 u10 u11 x3 jk3 => ?_⟩
    refine ⟨(by show 2 ≤ sizeLine; decide), fun rr K4 m4 x4 g4 => ?_⟩
    have jk4 := jk3.ex x4
    have rrj := jk3.ne m4
    refine ⟨_, rfl, _, _, rfl, rfl, c29, j, _, _, rfl, jk4, by omega, by omega, by omega, fun u2 K5 u20 u21 x5 jk5 => ?_⟩
    refine ⟨_, _, rfl, ?_⟩
    have g5 := x5 _ _ rrj g4
    -- here, goal
    refine ⟨_, rfl, _, rfl, j, _, _, rfl, jk5, by omega, by omega, by omega, fun h0 K6 h00 h01 x6 jk6 => ?_⟩
    have g6 := x6 _ _ rrj g5
    refine ⟨_, rfl, _, rfl, _, _, _, _, rfl, rfl, sqT g6, at1, _, _, rfl, rfl, j, _, _, rfl, jk6, by omega, by omega, by omega, fun h1 K7 h10 h11 x7 jk7 => ?_⟩
    have g7 := x7 _ _ rrj g6
    refine ⟨(by show 2 ≤ sizeLine; decide), fun hh K8 m8 x8 g8 => ?_⟩
    have jk8 := jk7.ex x8
    have hhj := jk7.ne m8
    refine ⟨_, rfl, _, rfl, j, _, _, rfl, jk8, by omega, by omega, by omega, fun q0 K9 q00 q01 x9 jk9 => ?_⟩
    have g9 := x9 _ _ rrj (x8 _ _ g7)
    refine ⟨_, rfl, _, rfl, _, _, _, _, rfl, rfl, sqT g9, at1, _, _, rfl, (by show 2 ≤ sizeLine; decide), fun gg K10 m10 x10 g10 => ?_⟩
    refine ⟨_, _, rfl, ?_⟩
    have g10 : K10 gg = some (.tup (t2 (q0, mn u2 u1))) := g10
    have m3 := mn_c u2 u1
    have G0 : 0 ≤ mn u2 u1 := by omega
    have G1 : mn u2 u1 ≤ u1 := by omega
    generalize mn u2 u1 = g1 at g10 G0 G1
    have r10 : K10 rr = some (.tup (t2 (size, u1))) := x10 _ _ g9
    have hh10 : K10 hh = some (.tup (t2 (h0, h1))) := x10 _ _ (x9 _ _ hhj g8)
    have okS : Ok (size, u1) (h0, h1) := ⟨h00, by show h0 ≤ size; omega, h10, by show h1 ≤ u1; omega⟩
    have okG : Ok (size, u1) (q0, g1) := ⟨q00, by show q0 ≤ size; omega, G0, G1⟩
    have y20 : Exj j H K10 := y12.trans (x3.trans ((Exj.of x4).trans (x5.trans (x6.trans (x7.trans ((Exj.of x8).trans (x9.trans (Exj.of x10))))))))
    have jk10 := jk9.ex x10
    refine ⟨_, rfl, _, _, _, _, rfl, rfl, sqT g10, at0, _, rfl, _, _, _, _, rfl, rfl, sqT hh10, at0, _, _, rfl, rfl, (by show 1 ≤ sizeLine; decide), fun tt K11 m11 x11 g11 => ?_⟩
    have ge := sqT (K := K) (x11 _ _ g10)
    have he := sqT (K := K) (x11 _ _ hh10)
    refine ⟨fun σ' H' => ∃ p, σ' = [some (.ref j), some (.int size), some (.int b), some (.int a), some (.int s), some (.ref p5), some (.ref pb), v7, some (.ref p), some (.ref rr), some (.int u2), some (.ref hh), some (.ref gg), none, none, none] ∧ Ex K11 H' ∧ H' p = some (.lst (li (few0 (size, u1) (h0, h1) (q0, g1)))), ?_, ?_⟩
    · refine ⟨_, rfl, _, _, _, _, rfl, rfl, he, at1, _, rfl, _, _, _, _, rfl, rfl, ge, at1, _, _, rfl, rfl, _, rfl, ?_⟩
      refine ifB (fun c => ?_) (fun c => ?_)
      · refine ⟨_, rfl, _, rfl, _, _, _, _, rfl, rfl, he, at0, _, _, rfl, rfl, _, rfl, _, _, _, _, rfl, rfl, ge, at1, _, _, rfl, rfl, _, rfl, _, _, _, _, rfl, rfl, he, at1, _, _, rfl, rfl, _, rfl, _, _, _, _, rfl, rfl, ge, at0, _, rfl, _, _, rfl, rfl, (by show 2 ≤ sizeLine; decide), fun p K12 m12 x12 g12 => ?_⟩
        refine ⟨p, rfl, x12, ?_⟩
        rw [g12]
        unfold few0
        rw [if_pos (of_decide_eq_true c)]
        rfl
      · have c' := of_decide_eq_false c
        refine ⟨_, rfl, _, _, _, _, rfl, rfl, he, at1, _, rfl, _, _, _, _, rfl, rfl, ge, at1, _, _, rfl, rfl, _, rfl, ?_⟩
        refine ifB (fun d => ?_) (fun d => ?_)
        · refine ⟨_, rfl, _, _, _, _, rfl, rfl, ge, at1, _, rfl, _, _, _, _, rfl, rfl, he, at1, _, _, rfl, rfl, _, rfl, _, _, _, _, rfl, rfl, he, at0, _, _, rfl, rfl, _, rfl, _, _, _, _, rfl, rfl, ge, at0, (by show 2 ≤ sizeLine; decide), fun p K12 m12 x12 g12 => ?_⟩
          refine ⟨p, rfl, x12, ?_⟩
          rw [g12]
          unfold few0
          rw [if_neg c', if_pos (of_decide_eq_true d)]
          rfl
        · refine ⟨tt, rfl, Evl.Ex.refl _, ?_⟩
          rw [g11]
          unfold few0
          rw [if_neg c', if_neg (of_decide_eq_false d)]
          rfl
    rintro σ' K12 ⟨p, rfl, x12, g12⟩
    have x1012 := x11.trans x12
    refine ⟨_, rfl, _, rfl, _, rfl, rr, hh, gg, (size, u1), (h0, h1), (q0, g1), rfl, sqT (x1012 _ _ r10), sqT (x1012 _ _ hh10), sqT (x1012 _ _ g10), fun _ _ _ _ p13 K13 m13 x13 g13 => ?_, fun z => by dsimp only at z; omega, fun _ z => by dsimp only at z; omega, fun _ _ z => absurd ⟨okS.1, okS.2.1⟩ z, fun _ _ _ _ z => absurd ⟨okS.2.2.1, okS.2.2.2⟩ z, fun _ _ _ z => absurd ⟨okG.1, okG.2.1⟩ z, fun _ _ _ _ _ z => absurd ⟨okG.2.2.1, okG.2.2.2⟩ z⟩
    have g12' := x13 _ _ g12
    have fl : (few0 (size, u1) (h0, h1) (q0, g1)).length ≤ 2 := by
      unfold few0
      split
      · exact Nat.le_refl 2
      · split
        · exact Nat.le_refl 2
        · exact Nat.le_succ 1
    refine ⟨_, rfl, p, rfl, ⟨_, sqI g12'⟩, fun D nD => lc_filtI (K := K) (a := p) (ns := few0 (size, u1) (h0, h1) (q0, g1)) (p := fun t => !decide (t = 0)) (sqI g12') nD (by omega) (fun x => rfl) ?_ ?_ ?_⟩
    · intro n' H' hn e' R' kR
      refine ⟨_, rfl, rfl, _, rfl, ?_⟩
      rw [dec_int]
      exact kR H' (Evl.Ex.refl _)
    · intro n' H' N kN
      exact ⟨_, rfl, kN⟩
    intro K14 x14 g14
    refine eqI_ (sqI (x14 _ _ g13)) (ys := nz (few0 (size, u1) (h0, h1) (q0, g1))) (sqI g14) ?_
    have : decide (few (size, u1) (h0, h1) (q0, g1) = nz (few0 (size, u1) (h0, h1) (q0, g1))) = true := decide_eq_true rfl
    rw [this]
    have x1014 := x1012.trans (x13.trans x14)
    exact k K14 (y20.trans (Exj.of x1014)) ((jk10.ex x1014).mono (by omega))
end
end K36
set_option Elab.async false
set_option pp.maxSteps 1200
set_option linter.all false
set_option maxRecDepth 100000
set_option maxHeartbeats 4000000
namespace My
open PySem L2
/-- a comprehension over zip of two tuples of one length -/
theorem lc_zipT {K : PySem.W.Frag} {a b : Addr} {xs ys : List V} {g : TG} {tt : TT} {te : TE} {vs : List Nat} {σ : L2.St} {H1 : Hp} {D : Addr} {Qd : Hp → Prop} (hl : xs.length = ys.length) (Pv : Nat → Hp → Prop) (h0 : Pv 0 (upd H1 D (.lst []))) (hq : ∀ i H, Pv i H → SqT K H a xs ∧ SqT K H b ys)
    (hs : ∀ (i : Nat) (x y : V) (T : Addr) H, xs[i]? = some x → ys[i]? = some y → Pv i H → H T = none → g (.ref T) (wipe σ vs) (upd H T (.tup [x, y])) fun σ2 H2 => wipe σ2 vs = wipe σ vs ∧ tt σ2 H2 fun b H3 =>
      if b = true then te σ2 H3 fun y H4 => ∃ acc, H4 D = some (.lst acc) ∧ acc.length < sizeLine ∧ Pv (i + 1) (upd H4 D (.lst (acc ++ [y]))) else Pv (i + 1) H3) (hd : ∀ H, Pv xs.length H → Qd H) :
    ∃ W : Nat → Nat → Hp → Prop, (∃ m, W 0 m (upd H1 D (.lst []))) ∧ ∀ i m H, W i m H →
      ((RZ.ItzT K a b).stop i H ∧ Qd H) ∨ ((RZ.ItzT K a b).go i H ∧ ∃ Nx : Hp → Prop, (∀ H', Nx H' → ∃ m', m' < m ∧ W (i + 1) m' H') ∧ ∀ x H', (RZ.ItzT K a b).yld i H x H' → g x (wipe σ vs) H' fun σ2 H2 => wipe σ2 vs = wipe σ vs ∧ tt σ2 H2 fun b H3 =>
        if b = true then te σ2 H3 fun y H4 => ∃ acc, H4 D = some (.lst acc) ∧ acc.length < sizeLine ∧ Nx (upd H4 D (.lst (acc ++ [y]))) else Nx H3) := by
  refine ⟨fun i m H => m = xs.length - i ∧ i ≤ xs.length ∧ Pv i H, ⟨xs.length, by simp, Nat.zero_le _, h0⟩, ?_⟩
  rintro i m H ⟨rfl, hi, p⟩
  obtain ⟨qx, qy⟩ := hq i H p
  by_cases hlt : i < xs.length
  · have hx : xs[i]? = some xs[i] := List.getElem?_eq_getElem hlt
    have hlt2 : i < ys.length := by omega
    have hy : ys[i]? = some ys[i] := List.getElem?_eq_getElem hlt2
    refine .inr ⟨⟨xs, ys, _, _, qx, qy, hx, hy⟩, Pv (i + 1), fun H' p' => ⟨xs.length - (i + 1), by omega, rfl, hlt, p'⟩, fun v H' y => ?_⟩
    obtain ⟨T, x, z, rfl, nT, rfl, fx, fy⟩ := y
    exact hs i x z T H (fx xs qx) (fy ys qy) p nT
  · have e : i = xs.length := by omega
    subst e
    exact .inl ⟨⟨xs, ys, qx, qy, .inl (Nat.le_refl _)⟩, hd H p⟩

end My
namespace K36
open PySem L2 My
def eO : Option Int → PyData
  | none => .none
  | some n => .int n
def vO : Option Int → V
  | none => .non
  | some n => .int n
theorem goodO : Good eO 0 := ⟨fun x => by cases x <;> rfl, fun x => by cases x <;> exact Nat.le_refl _, fun x y => by
  cases x with
  | none =>
    cases y with
    | none => rfl
    | some m => rfl
  | some n =>
    cases y with
    | none => rfl
    | some m =>
      show PyData.eqv (.int n) (.int m) = _
      rw [goodI.eqv n m, decide_eq_decide]
      simp⟩
theorem dpO {K : PySem.W.Frag} {H : Hp} : ∀ o : Option Int, Dp K H (vO o) (eO o)
  | none => .non
  | some n => .int n
theorem neO {K : PySem.W.Frag} {H : Hp} {o : Option Int} {Q : VK} (q : Q (.bl false) H) : rNeD K (vO o) (vO o) H Q := neE goodO (by decide) (dpO o) (dpO o) (by rw [decide_eq_true rfl]; exact q)
def due1 (size : Int) : Option Int := if size < 0 then some size else none
def due2 (R S G : Two) : Option Int := if R.1 < 0 then some R.1 else if R.2 < 0 then some R.2 else if S.1 < 0 ∨ R.1 < S.1 then some S.1 else if S.2 < 0 ∨ R.2 < S.2 then some S.2 else if G.1 < 0 ∨ R.1 < G.1 then some G.1 else if G.2 < 0 ∨ R.2 < G.2 then some G.2 else none
def due0 (size : Int) (ea : Addr) (e : Eff) : V := if size < 0 then .int size else if Valid size e then .non else .ref ea
def dueV (word size : Int) (ea : Addr) (e : Eff) (R S G : Two) : V := if word = 0 then due0 size ea e else if word = 1 then vO (due1 size) else vO (due2 R S G)
def sp__law_refused (K : PySem.W.Frag) : Sp := fun vs H Q _ => ∃ (word size : Int) (ea a b c : Addr) (e : Eff) (R S G : Two), vs = [.int word, .int size, .ref ea, .ref a, .ref b, .ref c] ∧ SqT K H ea (t3 e) ∧ SqT K H a (t2 R) ∧ SqT K H b (t2 S) ∧ SqT K H c (t2 G) ∧ size.natAbs < 2 ^ 100 ∧ Evl.RetV (dueV word size ea e R S G) H Q
def bad1 (S R : Two) : List Int := (if S.1 < 0 ∨ R.1 < S.1 then [S.1] else []) ++ (if S.2 < 0 ∨ R.2 < S.2 then [S.2] else [])
def badN (S R : Two) : Nat → List Int
  | 0 => []
  | 1 => if S.1 < 0 ∨ R.1 < S.1 then [S.1] else []
  | _ => bad1 S R
theorem bad_head {R S G : Two} (h1 : 0 ≤ R.1) (h2 : 0 ≤ R.2) : atI (li (bad1 S R ++ bad1 G R) ++ [V.non]) 0 = some (vO (due2 R S G)) := by
  refine atI_nat (j := 0) ?_
  unfold bad1 due2
  rw [if_neg (show ¬ R.1 < 0 by omega), if_neg (show ¬ R.2 < 0 by omega)]
  by_cases c1 : S.1 < 0 ∨ R.1 < S.1
  · rw [if_pos c1, if_pos c1]
    rfl
  rw [if_neg c1, if_neg c1]
  by_cases c2 : S.2 < 0 ∨ R.2 < S.2
  · rw [if_pos c2, if_pos c2]
    rfl
  rw [if_neg c2, if_neg c2]
  by_cases c3 : G.1 < 0 ∨ R.1 < G.1
  · rw [if_pos c3, if_pos c3]
    rfl
  rw [if_neg c3, if_neg c3]
  by_cases c4 : G.2 < 0 ∨ R.2 < G.2
  · rw [if_pos c4, if_pos c4]
    rfl
  rw [if_neg c4, if_neg c4]
  rfl
def sp__law_errors_right : Sp := fun vs H Q _ => ∃ (j a : Addr) (R : Two) (B : Int), vs = [.ref j, .ref a] ∧ Jug H j B ∧ B ≤ 2 ^ 50 ∧ H a = some (.tup (t2 R)) ∧ 0 ≤ R.1 ∧ R.1 ≤ 3 ∧ 0 ≤ R.2 ∧ R.2 ≤ 3 ∧ ∀ H', Exj j H H' → Jug H' j (B + 20) → Q (.bl true) H'
section
variable {w : World} {K : PySem.W.Frag} {mg : Str → Option Value} {base : Heap}
theorem ok__law_refused (T : Txt K mg) : FnOk PR w K mg base CX0 6 T.a__law_refused T.d__law_refused ["_law_word", "_law_size", "_law_effect_here", "_law_rooms", "_law_scrolls", "_law_goal"] (sp__law_refused K) := by
  refine T.f__law_refused.ok sc__law_refused (fun vs H Q E h => ?_) (fun cdv A outer s H vs Q E hr h => ?_)
  · obtain ⟨word, size, ea, a, b, c, e, R, S, G, rfl, _⟩ := h
    rfl
  · obtain ⟨word, size, ea, a, b, c, e, R, S, G, rfl, he, ha, hb, hc, zb, k⟩ := h
    refine ⟨_, (pss_cons (ps_cut (ps_try_asN rfl rfl sc__law_refused.nd takes0 (fun W pn xe tk po => (pss_one (ps_if (pt_cmpR op_eq (pv 0) pe_int (nomark _)) (pss_one (ps_expr (pe_callS (ok_turns_for T) (hr.mono (by decide)) (by rfl) T.g_turns_for T.f_turns_for.kp (b_turns_for T) (fun σ => passAt tk σ) (pa_cons (pv 1) (pa_cons (pv 2) pa_nil))))) (pss_one (ps_if (pt_cmpR op_eq (pv 0) pe_int (nomark _)) (pss_one (ps_expr (pe_callS (ok_number_of_effects T) (hr.mono (by decide)) (by rfl) T.g_number_of_effects T.f_number_of_effects.kp (b_number_of_effects T) (fun σ => passAt tk σ) (pa_cons (pv 1) pa_nil)))) (pss_one (ps_expr (pe_callS (ok_fewest_turns T) (hr.mono (by decide)) (by rfl) T.g_fewest_turns T.f_fewest_turns.kp (b_fewest_turns T) (fun σ => passAt tk σ) (pa_cons (pv 3) (pa_cons (pv 4) (pa_cons (pv 5) pa_nil))))))))))) (.cons (i := 6) rfl rfl ⟨by rfl, by decide, .inl T.g_InvalidNumber⟩ (fun a oe cls d pn hz hf => (pss_one (ps_ret (pe_xf T.e_InvalidNumber.xf T.e_InvalidNumber.nov hz hf (pv 6))))) (.cons (i := 6) rfl rfl ⟨by rfl, by decide, .inl T.g_InvalidValue⟩ (fun a oe cls d pn hz hf => (pss_one (ps_ret (pe_xf T.e_InvalidValue.xf T.e_InvalidValue.nov hz hf (pv 6))))) .nil)))) (pss_one (ps_ret pe_non))), ?_⟩
    refine ⟨fun σ' H' => Q .non H', ?_, fun σ' H' q => q⟩
    have kk : ∀ v H', dueV word size ea e R S G = v → Ex H H' → Q v H' := fun v H' z e1 => z ▸ k H' e1
    refine ⟨_, rfl, rfl, _, rfl, ?_⟩
    rw [dec_int]
    refine ifB (fun q => ?_) (fun q => ?_)
    · have q' : word = 0 := of_decide_eq_true q
      subst q'
      refine ⟨_, rfl, _, rfl, size, ea, e, rfl, he, fun c1 c2 p1 H1 n1 e1 h1 => ?_, fun c1 => ?_, fun c1 c2 => ?_⟩
      · exact kk _ _ (by unfold dueV due0; rw [if_pos rfl, if_neg (by omega), if_pos c2]) e1
      · exact fun d H' hd e' hx => ⟨true, T.x_InvalidNumber_InvalidNumber, fun _ a ha => ⟨_, rfl, rfl, rfl, d, _, _, rfl, hx, rfl, kk _ _ (by unfold dueV due0; rw [if_pos rfl, if_pos c1]) e'⟩, fun q => nomatch q⟩
      · exact fun d H' hd e' hx => ⟨false, T.x_InvalidValue_InvalidNumber, (fun q => nomatch q), fun _ => ⟨true, T.x_InvalidValue_InvalidValue, fun _ a' ha' => ⟨_, rfl, rfl, rfl, d, _, _, rfl, hx, rfl, kk _ _ (by unfold dueV due0; rw [if_pos rfl, if_neg (by omega), if_neg c2]) e'⟩, fun q => nomatch q⟩⟩
    have n0 : ¬ word = 0 := of_decide_eq_false q
    refine ⟨_, rfl, rfl, _, rfl, ?_⟩
    rw [dec_int]
    refine ifB (fun q1 => ?_) (fun q1 => ?_)
    · have q' : word = 1 := of_decide_eq_true q1
      subst q'
      refine ⟨_, rfl, size, rfl, by omega, fun c1 => ?_, fun c1 => ?_⟩
      · exact kk _ _ (by unfold dueV due1; rw [if_neg (by decide), if_pos rfl, if_neg (by omega)]; rfl) (Evl.Ex.refl _)
      · exact fun d H' hd e' hx => ⟨true, T.x_InvalidNumber_InvalidNumber, fun _ a ha => ⟨_, rfl, rfl, rfl, d, _, _, rfl, hx, rfl, kk _ _ (by unfold dueV due1; rw [if_neg (by decide), if_pos rfl, if_pos c1]; rfl) e'⟩, fun q => nomatch q⟩
    have n1 : ¬ word = 1 := of_decide_eq_false q1
    have dv : ∀ o, due2 R S G = o → dueV word size ea e R S G = vO o := fun o z => by
      unfold dueV
      rw [if_neg n0, if_neg n1, z]
    refine ⟨_, rfl, _, rfl, _, rfl, a, b, c, R, S, G, rfl, ha, hb, hc, fun c1 c2 c3 c4 p1 H1 n1 e1 h1 => ?_, fun c1 => ?_, fun c1 c2 => ?_, fun c1 c2 c3 => ?_, fun c1 c2 c3 c4 c5 => ?_, fun c1 c2 c3 c4 => ?_, fun c1 c2 c3 c4 c5 c6 => ?_⟩
    · obtain ⟨z1, z2, z3, z4⟩ := c3
      obtain ⟨z5, z6, z7, z8⟩ := c4
      exact kk .non _ (dv none (by unfold due2; rw [if_neg (by omega), if_neg (by omega), if_neg (by omega), if_neg (by omega), if_neg (by omega), if_neg (by omega)])) e1
    · exact fun d H' hd e' hx => ⟨true, T.x_InvalidNumber_InvalidNumber, fun _ a ha => ⟨_, rfl, rfl, rfl, d, _, _, rfl, hx, rfl, kk (.int R.1) _ (dv (some R.1) (by unfold due2; rw [if_pos c1])) e'⟩, fun q => nomatch q⟩
    · exact fun d H' hd e' hx => ⟨true, T.x_InvalidNumber_InvalidNumber, fun _ a ha => ⟨_, rfl, rfl, rfl, d, _, _, rfl, hx, rfl, kk (.int R.2) _ (dv (some R.2) (by unfold due2; rw [if_neg (by omega), if_pos c2])) e'⟩, fun q => nomatch q⟩
    · exact fun d H' hd e' hx => ⟨true, T.x_InvalidNumber_InvalidNumber, fun _ a ha => ⟨_, rfl, rfl, rfl, d, _, _, rfl, hx, rfl, kk (.int S.1) _ (dv (some S.1) (by unfold due2; rw [if_neg (by omega), if_neg (by omega), if_pos (by omega)])) e'⟩, fun q => nomatch q⟩
    · exact fun d H' hd e' hx => ⟨true, T.x_InvalidNumber_InvalidNumber, fun _ a ha => ⟨_, rfl, rfl, rfl, d, _, _, rfl, hx, rfl, kk (.int S.2) _ (dv (some S.2) (by unfold due2; rw [if_neg (by omega), if_neg (by omega), if_neg (by omega), if_pos (by omega)])) e'⟩, fun q => nomatch q⟩
    · obtain ⟨z1, z2, z3, z4⟩ := c3
      exact fun d H' hd e' hx => ⟨true, T.x_InvalidNumber_InvalidNumber, fun _ a ha => ⟨_, rfl, rfl, rfl, d, _, _, rfl, hx, rfl, kk (.int G.1) _ (dv (some G.1) (by unfold due2; rw [if_neg (by omega), if_neg (by omega), if_neg (by omega), if_neg (by omega), if_pos (by omega)])) e'⟩, fun q => nomatch q⟩
    · obtain ⟨z1, z2, z3, z4⟩ := c3
      exact fun d H' hd e' hx => ⟨true, T.x_InvalidNumber_InvalidNumber, fun _ a ha => ⟨_, rfl, rfl, rfl, d, _, _, rfl, hx, rfl, kk (.int G.2) _ (dv (some G.2) (by unfold due2; rw [if_neg (by omega), if_neg (by omega), if_neg (by omega), if_neg (by omega), if_neg (by omega), if_pos (by omega)])) e'⟩, fun q => nomatch q⟩
end
end K36
set_option Elab.async false
set_option pp.maxSteps 1200
set_option linter.all false
set_option maxRecDepth 100000
set_option maxHeartbeats 4000000
namespace K36
open PySem L2 My
theorem sel6 {u0 u1 u2 u3 u4 u5 : V} {i : Int} {P : V → Prop} (h0 : 0 ≤ i) (h1 : i < 6) (p0 : P u0) (p1 : P u1) (p2 : P u2) (p3 : P u3) (p4 : P u4) (p5 : P u5) : ∃ x, atI [u0, u1, u2, u3, u4, u5] i = some x ∧ P x := by
  rcases (show i = 0 ∨ i = 1 ∨ i = 2 ∨ i = 3 ∨ i = 4 ∨ i = 5 by omega) with e | e | e | e | e | e
  · subst e
    exact ⟨u0, at0, p0⟩
  · subst e
    exact ⟨u1, at1, p1⟩
  · subst e
    exact ⟨u2, at2, p2⟩
  · subst e
    exact ⟨u3, atI_nat (j := 3) rfl, p3⟩
  · subst e
    exact ⟨u4, atI_nat (j := 4) rfl, p4⟩
  · subst e
    exact ⟨u5, atI_nat (j := 5) rfl, p5⟩
theorem badN_step {S R : Two} {i : Nat} {u v : Int} (hu : [S.1, S.2][i]? = some u) (hv : [R.1, R.2][i]? = some v) : badN S R (i + 1) = badN S R i ++ (if u < 0 ∨ v < u then [u] else []) := by
  match i, hu, hv with
  | 0, hu, hv =>
    cases hu
    cases hv
    rfl
  | 1, hu, hv =>
    cases hu
    cases hv
    rfl
theorem badN_len (S R : Two) : ∀ i, (badN S R i).length ≤ 2
  | 0 => Nat.zero_le _
  | 1 => by
    show (if S.1 < 0 ∨ R.1 < S.1 then [S.1] else []).length ≤ 2
    split
    · exact (by decide : 1 ≤ 2)
    · exact Nat.zero_le _
  | _ + 2 => by
    show (bad1 S R).length ≤ 2
    unfold bad1
    rw [List.length_append]
    split <;> split <;> simp
section
variable {w : World} {K : PySem.W.Frag} {mg : Str → Option Value} {base : Heap}
theorem ok__law_errors_right (T : Txt K mg) : FnOk PR w K mg base CX0 7 T.a__law_errors_right T.d__law_errors_right ["_law_jug_here", "_law_rooms"] sp__law_errors_right := by
  refine T.f__law_errors_right.ok sc__law_errors_right (fun vs H Q E h => ?_) (fun cdv A outer s H vs Q E hr h => ?_)
  · obtain ⟨j, a, R, B, rfl, _⟩ := h
    rfl
  · obtain ⟨j, a, R, B, rfl, hj, hB, ha, r1, r1', r2, r2', k⟩ := h
    have aj : a ≠ j := fun z => by
      obtain ⟨x, y, z', hx, _⟩ := hj
      rw [z, hx] at ha
      cases ha
    refine ⟨_, (pss_cons (ps_set (i := 2) sc__law_errors_right.nd rfl (by first | exact Or.inl rfl | exact Or.inr rfl) (pe_op op_sub (pe_call (ok__law_pour T) (hr.mono (by decide)) (by rfl) T.g__law_pour T.f__law_pour.kp (b__law_pour T) .nil pass0 (pa_cons (pv 0) (pa_cons pe_int pa_nil))) pe_int)) (pss_cons (ps_set (i := 3) sc__law_errors_right.nd rfl (by first | exact Or.inl rfl | exact Or.inr rfl) (pe_call (ok__law_pour T) (hr.mono (by decide)) (by rfl) T.g__law_pour T.f__law_pour.kp (b__law_pour T) .nil pass0 (pa_cons (pv 0) (pa_cons pe_int pa_nil)))) (pss_cons (ps_set (i := 4) sc__law_errors_right.nd rfl (by first | exact Or.inl rfl | exact Or.inr rfl) (pe_lstG (pa_cons (pe_tupG (pa_cons pe_int (pa_cons (pv 3) (pa_cons (pv 3) pa_nil)))) (pa_cons (pe_tupG (pa_cons pe_int (pa_cons (pv 3) (pa_cons (pe_op op_add (pv 2) pe_int) pa_nil)))) (pa_cons (pe_tupG (pa_cons pe_int (pa_cons (pe_un un_neg pe_int) (pa_cons pe_int pa_nil)))) (pa_cons (pe_tupG (pa_cons (pe_op op_add (pv 3) pe_int) (pa_cons (pv 3) (pa_cons (pe_op op_add (pv 3) pe_int) pa_nil)))) (pa_cons (pe_tupG (pa_cons (pe_un un_neg pe_int) (pa_cons pe_int (pa_cons pe_int pa_nil)))) (pa_cons (pe_tupG (pa_cons pe_int (pa_cons pe_int (pa_cons pe_int pa_nil)))) pa_nil)))))))) (pss_cons (ps_set (i := 5) sc__law_errors_right.nd rfl (by first | exact Or.inl rfl | exact Or.inr rfl) (pe_ix ix_list (pv 4) (pe_call (ok__law_pour T) (hr.mono (by decide)) (by rfl) T.g__law_pour T.f__law_pour.kp (b__law_pour T) .nil pass0 (pa_cons (pv 0) (pa_cons pe_int pa_nil))) (fun _ _ => rfl))) (pss_cons (ps_if (pt_cmpR (op_neD hr.units) (pe_call (ok__law_refused T) (hr.mono (by decide)) (by rfl) T.g__law_refused T.f__law_refused.kp (b__law_refused T) .nil pass0 (pa_cons pe_int (pa_cons (pv 2) (pa_cons (pv 5) (pa_cons (pv 1) (pa_cons (pe_tupG (pa_cons pe_int (pa_cons pe_int pa_nil))) (pa_cons (pe_tupG (pa_cons pe_int (pa_cons pe_int pa_nil))) pa_nil))))))) (pe_cut (pe_ifExp (pt_cmpR op_lt (pv 2) pe_int (nomark _)) (pv 2) (pv 5))) (nomark _)) (pss_one (ps_ret pe_bl)) pss_nil) (pss_cons (ps_if (pt_cmpR (op_neD hr.units) (pe_call (ok__law_refused T) (hr.mono (by decide)) (by rfl) T.g__law_refused T.f__law_refused.kp (b__law_refused T) .nil pass0 (pa_cons pe_int (pa_cons (pv 2) (pa_cons (pv 5) (pa_cons (pv 1) (pa_cons (pe_tupG (pa_cons pe_int (pa_cons pe_int pa_nil))) (pa_cons (pe_tupG (pa_cons pe_int (pa_cons pe_int pa_nil))) pa_nil))))))) (pe_cut (pe_ifExp (pt_cmpR op_lt (pv 2) pe_int (nomark _)) (pv 2) pe_non)) (nomark _)) (pss_one (ps_ret pe_bl)) pss_nil) (pss_cons (ps_setLc (i := 6) (own := [("_law_turn", 9)]) (g := gName 9) (by rfl) sc__law_errors_right.nd rfl rfl (sw_true rfl rfl rfl (by decide +kernel)) (pi_range1 (by rfl) T.z_range (pa_cons pe_int pa_nil)) (blkOk_by (own := [("_law_turn", 9)]) (N := ["_law_jug_here", "_law_rooms", "_law_size", "_law_low", "_law_effects", "_law_effect_here", "_law_pairs_here", "_law_bad", "_law_pair", "_law_turn", "_law_number", "_law_most"]) (sc := (defScope s__law_errors_right)) (by decide +kernel)) (fun _ _ _ _ _ => (pg_name (i := 9) sc__law_errors_right.nd rfl (by first | exact Or.inl rfl | exact Or.inr rfl))) (fun _ _ _ _ _ => pts_nil) (fun _ _ _ _ _ => (pe_tupG (pa_cons (pe_op op_sub (pe_call (ok__law_pour T) (hr.mono (by decide)) (by rfl) T.g__law_pour T.f__law_pour.kp (b__law_pour T) .nil pass0 (pa_cons (pv 0) (pa_cons pe_int pa_nil))) pe_int) (pa_cons (pe_op op_sub (pe_call (ok__law_pour T) (hr.mono (by decide)) (by rfl) T.g__law_pour T.f__law_pour.kp (b__law_pour T) .nil pass0 (pa_cons (pv 0) (pa_cons pe_int pa_nil))) pe_int) pa_nil))))) (pss_cons (ps_set (i := 7) sc__law_errors_right.nd rfl (by first | exact Or.inl rfl | exact Or.inr rfl) (pe_lstG pa_nil)) (pss_cons (ps_for PassesOwn.never rfl (pi_list (pv 6)) (pg_name (i := 8) sc__law_errors_right.nd rfl (by first | exact Or.inl rfl | exact Or.inr rfl)) (pss_one (ps_set (i := 7) sc__law_errors_right.nd rfl (by first | exact Or.inl rfl | exact Or.inr rfl) (pe_op op_catG (pv 7) (pe_lc (own := [("_law_number", 10), ("_law_most", 11)]) (g := (gTup K 2 (gCons (gName 10) (gCons (gName 11) gNil)))) (by rfl) sc__law_errors_right.nd (RZ.pi_zipA (by rfl) T.z_zip (pa_cons (pv 8) (pa_cons (pv 1) pa_nil))) (blkOk_by (own := [("_law_number", 10), ("_law_most", 11)]) (N := ["_law_jug_here", "_law_rooms", "_law_size", "_law_low", "_law_effects", "_law_effect_here", "_law_pairs_here", "_law_bad", "_law_pair", "_law_turn", "_law_number", "_law_most"]) (sc := (defScope s__law_errors_right)) (by decide +kernel)) (fun _ _ _ _ _ => (pg_tup rfl (pgs_cons (pg_name (i := 10) sc__law_errors_right.nd rfl (by first | exact Or.inl rfl | exact Or.inr rfl)) (pgs_cons (pg_name (i := 11) sc__law_errors_right.nd rfl (by first | exact Or.inl rfl | exact Or.inr rfl)) pgs_nil)))) (fun _ _ _ _ _ => (pts_one (PW.pt (pw_or (pt_cmpR op_lt (pv 10) pe_int (nomark _)) (pw_or1 (pt_cmpR op_gt (pv 10) (pv 11) (nomark _))))))) (fun _ _ _ _ _ => (pv 10))))))) (pss_cons (ps_if (pt_cmpR (op_neD hr.units) (pe_call (ok__law_refused T) (hr.mono (by decide)) (by rfl) T.g__law_refused T.f__law_refused.kp (b__law_refused T) .nil pass0 (pa_cons pe_int (pa_cons pe_int (pa_cons (pv 5) (pa_cons (pv 1) (pa_cons (pe_ix ix_list (pv 6) pe_int (fun _ _ => rfl)) (pa_cons (pe_ix ix_list (pv 6) pe_int (fun _ _ => rfl)) pa_nil))))))) (pe_ix ix_list (pe_op op_catG (pv 7) (pe_lstG (pa_cons pe_non pa_nil))) pe_int (fun _ _ => rfl)) (nomark _)) (pss_one (ps_ret pe_bl)) pss_nil) (pss_one (ps_ret (pe_cmpR (op_eqD hr.units) (pe_call (ok__law_refused T) (hr.mono (by decide)) (by rfl) T.g__law_refused T.f__law_refused.kp (b__law_refused T) .nil pass0 (pa_cons pe_int (pa_cons pe_int (pa_cons (pv 5) (pa_cons (pe_tupG (pa_cons (pe_ix ix_tup (pv 1) pe_int (fun _ _ => rfl)) (pa_cons (pe_un un_neg pe_int) pa_nil))) (pa_cons (pe_tupG (pa_cons (pe_op op_sub pe_int pe_int) (pa_cons pe_int pa_nil))) (pa_cons (pe_tupG (pa_cons pe_int (pa_cons (pe_un un_neg pe_int) pa_nil))) pa_nil))))))) (pe_un un_neg pe_int) (nomark _)))))))))))))), ?_⟩
    refine ⟨_, rfl, j, _, B, rfl, hj, by omega, by decide, by decide, fun n1 H1 n10 n11 e1 j1 => ?_⟩
    refine ⟨_, _, rfl, rfl, ?_⟩
    refine ⟨_, rfl, j, _, _, rfl, j1, by omega, by decide, by decide, fun low H2 l0 l1 e2 j2 => ?_⟩
    have a2 := e2 _ _ aj (e1 _ _ aj ha)
    obtain ⟨size, hsize⟩ : ∃ z, z = n1 - 2 := ⟨_, rfl⟩
    have z0 : -2 ≤ size := by omega
    have z1 : size ≤ 3 := by omega
    refine st_eq (σ' := [some (.ref j), some (.ref a), some (.int size), none, none, none, none, none, none, none, none, none]) (P := fun σ => gName 3 (V.int low) σ H2 _) (by rw [hsize]; rfl) ?_
    refine ⟨_, rfl, _, rfl, (by show 3 ≤ sizeLine; decide), fun p1 H3 m3 e3 h3 => ?_⟩
    refine ⟨_, rfl, _, rfl, _, _, rfl, rfl, (by show 3 ≤ sizeLine; decide), fun p2 H4 m4 e4 h4 => ?_⟩
    refine ⟨_, rfl, (by show 3 ≤ sizeLine; decide), fun p3 H5 m5 e5 h5 => ?_⟩
    refine ⟨_, rfl, _, _, rfl, rfl, _, rfl, _, rfl, _, _, rfl, rfl, (by show 3 ≤ sizeLine; decide), fun p4 H6 m6 e6 h6 => ?_⟩
    refine ⟨_, rfl, (by show 3 ≤ sizeLine; decide), fun p5 H7 m7 e7 h7 => ?_⟩
    refine ⟨(by show 3 ≤ sizeLine; decide), fun p6 H8 m8 e8 h8 => ?_⟩
    refine ⟨(by show 6 ≤ sizeLine; decide), fun L H9 m9 e9 h9 => ?_⟩
    have e68 := e7.trans (e8.trans e9)
    have e39 := e4.trans (e5.trans (e6.trans e68))
    have e29 := e3.trans e39
    have j9 := j2.ex e29
    have Lj : L ≠ j := (j2.ex (e3.trans (e4.trans (e5.trans (e6.trans (e7.trans e8)))))).ne m9
    refine ⟨_, rfl, _, rfl, j, _, _, rfl, j9, by omega, by decide, by decide, fun i1 H10 i10 i11 e10 j10 => ?_⟩
    have hP : ∀ (p : Addr) (e : Eff), H9 p = some (.tup (t3 e)) → (0 ≤ size → ¬ Valid size e) → ∃ q f, V.ref p = .ref q ∧ H10 q = some (.tup (t3 f)) ∧ (0 ≤ size → ¬ Valid size f) := fun p e h hv => ⟨p, e, rfl, e10 _ _ (fun z => by
      obtain ⟨x, y, z', hx, _⟩ := j9
      rw [z, hx] at h
      cases h) h, hv⟩
    obtain ⟨x, hx, p, e, rfl, hp, hv⟩ := sel6 (P := fun v => ∃ q f, v = .ref q ∧ H10 q = some (.tup (t3 f)) ∧ (0 ≤ size → ¬ Valid size f)) i10 i11
      (hP p1 (1, low, low) (e39 _ _ h3) (fun _ v => by
        have : (1 : Int) = 0 := v.2.2.2.1 rfl
        exact absurd this (by decide)))
      (hP p2 (0, low, size + 3) ((e5.trans (e6.trans e68)) _ _ h4) (fun _ v => by
        have := v.2.2.1
        dsimp only at this
        omega))
      (hP p3 (0, -1, 0) ((e6.trans e68) _ _ h5) (fun _ v => by
        have : (0 : Int) ≤ -1 := v.1
        exact absurd this (by decide)))
      (hP p4 (low + 1, low, low + 1) (e68 _ _ h6) (fun _ v => by
        have := v.2.2.2.2 (by show low < low + 1; omega)
        dsimp only at this
        omega))
      (hP p5 (-9, 0, 1) ((e8.trans e9) _ _ h7) (fun z v => by
        have := v.2.2.2.2 (by decide)
        dsimp only at this
        omega))
      (hP p6 (0, 2, 1) (e9 _ _ h8) (fun _ v => by
        have : (2 : Int) ≤ 1 := v.2.1
        exact absurd this (by decide)))
    refine ⟨_, _, _, _, rfl, rfl, sqI (e10 _ _ Lj h9), hx, ?_⟩
    clear hP
    have a10 := e10 _ _ aj (e29 _ _ a2)
    have y10 : Exj j H H10 := e1.trans (e2.trans ((Exj.of e29).trans e10))
    -- refused 0
    refine ⟨_, rfl, _, rfl, _, rfl, (by show 2 ≤ sizeLine; decide), fun q1 H11 m11 e11 h11 => ?_⟩
    refine ⟨(by show 2 ≤ sizeLine; decide), fun q2 H12 m12 e12 h12 => ?_⟩
    have e1012 := e11.trans e12
    refine ⟨0, size, p, a, q1, q2, e, R, (0, 0), (0, 0), rfl, sqT (e1012 _ _ hp), sqT (e1012 _ _ a10), sqT (e12 _ _ h11), sqT h12, by omega, fun H13 e13 => ?_⟩
    have e1013 := e1012.trans e13
    have hp13 := e1013 _ _ hp
    refine ⟨fun v' H' => H' = H13 ∧ v' = due0 size p e, ?_, ?_⟩
    · refine ⟨_, rfl, _, _, rfl, rfl, _, rfl, ?_⟩
      refine ifB (fun c => ?_) (fun c => ?_)
      · refine ⟨_, rfl, rfl, ?_⟩
        unfold due0
        rw [if_pos (of_decide_eq_true c)]
      · have c' := of_decide_eq_false c
        refine ⟨_, rfl, rfl, ?_⟩
        unfold due0
        rw [if_neg c', if_neg (hv (by omega))]
    rintro v' H' ⟨rfl, rfl⟩
    have same : ∀ Q : VK, Q (.bl false) H' → rNeD K (dueV 0 size p e R (0, 0) (0, 0)) (due0 size p e) H' Q := by
      intro Q q
      show rNeD K (due0 size p e) (due0 size p e) H' Q
      unfold due0
      by_cases c : size < 0
      · rw [if_pos c]
        exact neO (o := some size) q
      · rw [if_neg c, if_neg (hv (by omega))]
        exact neE (goodT goodI) (by decide) (dpT (ns := [e.1, e.2.1, e.2.2]) (sqT hp13)) (dpT (ns := [e.1, e.2.1, e.2.2]) (sqT hp13)) (by rw [decide_eq_true rfl]; exact q)
    refine same _ ⟨_, rfl, ifF rfl ?_⟩
    -- refused 1
    refine ⟨_, rfl, _, rfl, _, rfl, (by show 2 ≤ sizeLine; decide), fun q3 H14 m14 e14 h14 => ?_⟩
    refine ⟨(by show 2 ≤ sizeLine; decide), fun q4 H15 m15 e15 h15 => ?_⟩
    have e1015 := e1013.trans (e14.trans e15)
    refine ⟨1, size, p, a, q3, q4, e, R, (0, 0), (0, 0), rfl, sqT (e1015 _ _ hp), sqT (e1015 _ _ a10), sqT (e15 _ _ h14), sqT h15, by omega, fun H16 e16 => ?_⟩
    have e1016 := e1015.trans e16
    refine ⟨fun v' H' => H' = H16 ∧ v' = vO (due1 size), ?_, ?_⟩
    · refine ⟨_, rfl, _, _, rfl, rfl, _, rfl, ?_⟩
      refine ifB (fun c => ?_) (fun c => ?_)
      · refine ⟨_, rfl, rfl, ?_⟩
        unfold due1
        rw [if_pos (of_decide_eq_true c)]
        rfl
      · have c' := of_decide_eq_false c
        refine ⟨rfl, ?_⟩
        unfold due1
        rw [if_neg c']
        rfl
    rintro v' H'' ⟨rfl, rfl⟩
    have d1 : dueV 1 size p e R (0, 0) (0, 0) = vO (due1 size) := by
      unfold dueV
      rw [if_neg (by decide), if_pos rfl]
    rw [d1]
    refine neO ⟨_, rfl, ifF rfl ?_⟩
    have j16 := j10.ex e1016
    have y16 := y10.trans (Exj.of e1016)
    have a16 := e1016 _ _ a10
    have hp16 := e1016 _ _ hp
    clear same
    have pj : p ≠ j := fun z => by
      obtain ⟨x, y, z', hx, _⟩ := j16
      rw [z, hx] at hp16
      cases hp16
    -- pairs
    refine ⟨_, rfl, (by decide), (by decide), fun D nD => lc_range (lo := 0) (n := 2) (fun i H2 => ∃ ps : List V, ∃ xs : List Two, Exj j H'' H2 ∧ Jug H2 j (B + 3 + 2 * i) ∧ H2 D = some (.lst ps) ∧ ps.length = i ∧ AllR (fun v (x : Two) => ∃ q, v = .ref q ∧ q ≠ j ∧ q ≠ D ∧ H2 q = some (.tup (t2 x)) ∧ -1 ≤ x.1 ∧ x.1 ≤ 5 ∧ -1 ≤ x.2 ∧ x.2 ≤ 5) ps xs) ?_ ?_ ?_⟩
    · exact ⟨[], [], Exj.of (Evl.Ex.new nD), (j16.ex (Evl.Ex.new nD)).mono (by omega), upd_same, rfl, AllR.nil⟩
    · rintro i K1 hi ⟨ps, xs, x1, jk1, d1, l1, al⟩
      have Dj : D ≠ j := j16.ne nD
      refine ⟨rfl, ?_⟩
      show _
      refine ⟨_, rfl, j, _, _, rfl, jk1, by omega, by decide, by decide, fun u1 K2 u10 u11 x2 jk2 => ?_⟩
      refine ⟨_, _, rfl, rfl, _, rfl, j, _, _, rfl, jk2, by omega, by decide, by decide, fun u2 K3 u20 u21 x3 jk3 => ?_⟩
      refine ⟨_, _, rfl, rfl, (by show 2 ≤ sizeLine; decide), fun q K4 m4 x4 g4 => ?_⟩
      have d3 := x4 _ _ (x3 _ _ Dj (x2 _ _ Dj d1))
      have jk4 := jk3.ex x4
      have qj := jk3.ne m4
      have qD : q ≠ D := fun z => by
        rw [z, x3 _ _ Dj (x2 _ _ Dj d1)] at m4
        cases m4
      refine ⟨ps, d3, Nat.lt_of_le_of_lt (show ps.length ≤ 2 by omega) (by decide), ps ++ [.ref q], xs ++ [(u1 - 1, u2 - 1)], ?_, ?_, upd_same, by rw [List.length_append]; show ps.length + 1 = i + 1; omega, ?_⟩
      · exact fun b o nb hb => by
          rw [upd_ne (ne_of_none hb nD)]
          exact x4 _ _ (x3 _ _ nb (x2 _ _ nb (x1 _ _ nb hb)))
      · obtain ⟨x, y, z, h, g1, g2, g3, g4⟩ := jk4
        exact ⟨x, y, z, by rw [upd_ne Dj.symm]; exact h, g1, g2, g3, by omega⟩
      · refine AllR.snoc (al.mono fun v x ⟨q, a, b, c, d, r⟩ => ⟨q, a, b, c, by rw [upd_ne c]; exact x4 _ _ (x3 _ _ b (x2 _ _ b d)), r⟩) ⟨q, rfl, qj, qD, by rw [upd_ne qD]; exact g4, ?_⟩
        dsimp only
        omega
    rintro H17 ⟨ps, xs, x17, jk17, d17, l17, al17⟩
    have Dj : D ≠ j := j16.ne nD
    have xl : xs.length = 2 := by rw [← al17.1, l17]
    obtain ⟨S, G, rfl⟩ : ∃ S G, xs = [S, G] := by
      match xs, xl with
      | [S, G], _ => exact ⟨S, G, rfl⟩
    obtain ⟨v0, hv0, s0, rfl, s0j, _, hs0, sb⟩ := al17.row (i := 0) (x := S) rfl
    obtain ⟨v1, hv1, s1, rfl, s1j, _, hs1, gb⟩ := al17.row (i := 1) (x := G) rfl
    have a17 := x17 _ _ aj a16
    have hp17 := x17 _ _ pj hp16
    have y17 := y16.trans x17
    -- bad
    refine ⟨(by show 0 ≤ sizeLine; decide), fun b0 H18 m18 e18 h18 => ?_⟩
    have psq : ∃ ws, ps = ws := ⟨_, rfl⟩
    refine ⟨_, rfl, D, rfl, ⟨_, sqI (e18 _ _ d17)⟩, for_list (K := K) (a := D) (xs := ps) (fun i σ H' => ∃ bp v8, σ = [some (.ref j), some (.ref a), some (.int size), some (.int low), some (.ref L), some (.ref p), some (.ref D), some (.ref bp), v8, none, none, none] ∧ Ex H17 H' ∧ H' bp = some (.lst (li (([S, G].take i).flatMap fun P => bad1 P R)))) ⟨b0, _, rfl, e18, h18⟩ (fun i σ H' _ ⟨_, _, _, e, _⟩ => sqI (e _ _ d17)) ?_ ?_⟩
    · rintro i x σ K1 hi ⟨bp, v8, rfl, x1, g1⟩
      obtain ⟨P, hP, q, rfl, qj, _, hq, qb⟩ := al17.get hi
      have hq1 := sqT (K := K) (x1 _ _ hq)
      have ha1 := sqT (K := K) (x1 _ _ a17)
      have bl : (([S, G].take i).flatMap fun P => bad1 P R).length ≤ 4 := by
        have i2 : i < 2 := by
          have := (List.getElem?_eq_some_iff.mp hP).1
          simpa using this
        have bz : ∀ P, (bad1 P R).length ≤ 2 := fun P => badN_len P R 2
        rcases (show i = 0 ∨ i = 1 by omega) with z | z
        · subst z
          exact Nat.zero_le _
        · subst z
          show ([S].flatMap fun P => bad1 P R).length ≤ 4
          have := bz S
          simp
          omega
      refine ⟨_, rfl, _, rfl, _, rfl, q, a, _, _, rfl, .inr ⟨hq1, ha1, fun D2 nD2 => lc_zipT (xs := t2 P) (ys := t2 R) rfl (fun i H' => Ex K1 H' ∧ H' D2 = some (.lst (li (badN P R i)))) ⟨Evl.Ex.new nD2, upd_same⟩ (fun i H' z => ⟨Evl.ex_t z.1 hq1, Evl.ex_t z.1 ha1⟩) ?_ ?_⟩⟩
      · rintro i' x y Tt HX hx hy ⟨e, d⟩ nT
        obtain ⟨u, hu, rfl⟩ := mapI_get (ts := [P.1, P.2]) hx
        obtain ⟨v, hv, rfl⟩ := mapI_get (ts := [R.1, R.2]) hy
        have TD : Tt ≠ D2 := fun z => by
          rw [z, d] at nT
          cases nT
        have dU : upd HX Tt (.tup [.int u, .int v]) D2 = some (.lst (li (badN P R i'))) := by
          rw [upd_ne TD.symm]
          exact d
        have eU : Ex K1 (upd HX Tt (.tup [.int u, .int v])) := e.trans (Evl.Ex.new nT)
        refine ⟨_, _, rfl, sqT upd_same, rfl, _, _, rfl, _, _, rfl, rfl, rfl, ?_⟩
        show _
        have yes : u < 0 ∨ v < u → ∃ acc, upd HX Tt (.tup [.int u, .int v]) D2 = some (.lst acc) ∧ acc.length < sizeLine ∧ (Ex K1 (upd (upd HX Tt (.tup [.int u, .int v])) D2 (.lst (acc ++ [.int u]))) ∧ upd (upd HX Tt (.tup [.int u, .int v])) D2 (.lst (acc ++ [.int u])) D2 = some (.lst (li (badN P R (i' + 1))))) := fun c => by
          refine ⟨_, dU, ?_, Evl.Ex.mut eU nD2, ?_⟩
          · rw [List.length_map]
            exact Nat.lt_of_le_of_lt (badN_len P R i') (by decide)
          · rw [upd_same, badN_step hu hv, if_pos c]
            unfold li
            rw [List.map_append]
            rfl
        refine ⟨_, rfl, _, _, rfl, rfl, _, rfl, ?_⟩
        refine ifB (fun c => ?_) (fun c => ?_)
        · exact ⟨_, rfl, yes (.inl (of_decide_eq_true c))⟩
        · have c' := of_decide_eq_false c
          refine ⟨_, rfl, _, rfl, _, _, rfl, rfl, _, rfl, ?_⟩
          refine ifB (fun f => ?_) (fun f => ?_)
          · exact ⟨_, rfl, yes (.inr (of_decide_eq_true f))⟩
          · have f' := of_decide_eq_false f
            refine ⟨eU, ?_⟩
            rw [dU, badN_step hu hv, if_neg (by omega), List.append_nil]
      rintro K2 ⟨x2, d2⟩
      have d2 : K2 D2 = some (.lst (li (bad1 P R))) := d2
      refine ⟨_, _, _, _, rfl, rfl, x2 _ _ g1, d2, ?_, fun r3 K3 m3 x3 g3 => ?_⟩
      · rw [List.length_map, List.length_map]
        have := badN_len P R 2
        exact Nat.le_trans (show _ + _ ≤ 6 from Nat.add_le_add bl this) (by decide)
      refine ⟨r3, _, rfl, x1.trans (x2.trans x3), ?_⟩
      rw [g3, take_snoc hP, List.flatMap_append]
      unfold li
      rw [List.map_append]
      simp
    rintro σ K1 ⟨bp, v8, rfl, x1, g1⟩
    rw [l17] at g1
    have g1 : K1 bp = some (.lst (li (bad1 S R ++ bad1 G R))) := by
      rw [g1]
      simp
    have dK := sqI (K := K) (x1 _ _ d17)
    have at0' : atI ps 0 = some (.ref s0) := atI_nat (j := 0) hv0
    have at1' : atI ps 1 = some (.ref s1) := atI_nat (j := 1) hv1
    refine ⟨_, rfl, _, rfl, _, rfl, _, _, _, _, rfl, rfl, dK, at0', _, rfl, _, _, _, _, rfl, rfl, dK, at1', ?_⟩
    refine ⟨2, 0, p, a, s0, s1, e, R, S, G, rfl, sqT (x1 _ _ hp17), sqT (x1 _ _ a17), sqT (x1 _ _ hs0), sqT (x1 _ _ hs1), by decide, fun K2 x2 => ?_⟩
    have d2 : dueV 2 0 p e R S G = vO (due2 R S G) := by
      unfold dueV
      rw [if_neg (by decide), if_neg (by decide)]
    rw [d2]
    refine ⟨_, rfl, (by show 1 ≤ sizeLine; decide), fun r3 K3 m3 x3 g3 => ?_⟩
    refine ⟨_, _, _, _, rfl, rfl, (x2.trans x3) _ _ g1, g3, ?_, fun r4 K4 m4 x4 g4 => ?_⟩
    · rw [List.length_map, List.length_append]
      have := badN_len S R 2
      have := badN_len G R 2
      exact Nat.le_trans (show (badN S R 2).length + (badN G R 2).length + 1 ≤ 5 by omega) (by decide)
    refine ⟨_, _, _, _, rfl, rfl, sqI g4, bad_head r1 r2, neO ⟨_, rfl, ifF rfl ?_⟩⟩
    have x14 := x1.trans (x2.trans (x3.trans x4))
    refine ⟨_, rfl, _, rfl, _, _, _, _, rfl, rfl, sqT (x14 _ _ a17), at0, _, rfl, (by show 2 ≤ sizeLine; decide), fun w1 K5 m5 x5 g5 => ?_⟩
    refine ⟨_, _, rfl, rfl, (by show 2 ≤ sizeLine; decide), fun w2 K6 m6 x6 g6 => ?_⟩
    refine ⟨_, rfl, (by show 2 ≤ sizeLine; decide), fun w3 K7 m7 x7 g7 => ?_⟩
    have x47 := x5.trans (x6.trans x7)
    refine ⟨2, 0, p, w1, w2, w3, e, (R.1, -7), (0 - 1, 0), (0, -2), rfl, sqT ((x14.trans x47) _ _ hp17), sqT ((x6.trans x7) _ _ g5), sqT (x7 _ _ g6), sqT g7, by decide, fun K8 x8 => ?_⟩
    have d3 : dueV 2 0 p e (R.1, -7) (0 - 1, 0) (0, -2) = .int (-7) := by
      unfold dueV due2
      dsimp only
      rw [if_neg (by decide), if_neg (by decide), if_neg (by omega), if_pos (by decide)]
      rfl
    rw [d3]
    refine ⟨_, rfl, eqE goodI (by decide) (.int (-7)) (.int (-7)) ?_⟩
    have x18 := x14.trans (x47.trans x8)
    exact k K8 (y17.trans (Exj.of x18)) ((jk17.ex x18).mono (by omega))
end
end K36
set_option Elab.async false
set_option pp.maxSteps 1200
set_option linter.all false
set_option maxRecDepth 100000
set_option maxHeartbeats 4000000
namespace K36
open PySem L2 My
def sp_law (K : PySem.W.Frag) : Sp := fun vs H Q _ => ∃ (a : Addr) (ns : List Int), vs = [.ref a] ∧ SqL K H a (ns.map V.int) ∧ ns.length ≤ 63 ∧ ∀ H', Q (.bl true) H'
theorem exj_ex {H H1 H2 : Hp} {j : Addr} (e : Ex H H1) (n : H j = none) (x : Exj j H1 H2) : Ex H H2 := fun b o h => x b o (ne_of_none h n) (e b o h)
theorem sel3 {x y z : Int} {n : Int} (h0 : 0 ≤ n) (h1 : n < 3) : ∃ v, atI [V.int x, V.int y, V.int z] n = some (V.int v) ∧ (v = x ∨ v = y ∨ v = z) := by
  have : n = 0 ∨ n = 1 ∨ n = 2 := by omega
  rcases this with rfl | rfl | rfl
  · exact ⟨x, at0, .inl rfl⟩
  · exact ⟨y, at1, .inr (.inl rfl)⟩
  · exact ⟨z, at2, .inr (.inr rfl)⟩
theorem few_same (R S : Two) : few R S S = [] := by
  unfold few few0 nz
  rw [if_neg (Int.lt_irrefl _), if_neg (Int.lt_irrefl _), List.filter_cons, if_neg (by simp)]
  rfl
theorem tup_ne {H : Hp} {j p : Addr} {B : Int} {xs : List V} (h : Jug H j B) (hp : H p = some (.tup xs)) : p ≠ j := fun z => by
  obtain ⟨x, y, z', hx, _⟩ := h
  rw [z, hx] at hp
  cases hp
section
variable {w : World} {K : PySem.W.Frag} {mg : Str → Option Value} {base : Heap}
theorem ok_law (T : Txt K mg) : FnOk PR w K mg base CX0 8 T.a_law T.d_law ["_law_script"] (sp_law K) := by
  refine T.f_law.ok sc_law (fun vs H Q E h => ?_) (fun cdv A outer s H vs Q E hr h => ?_)
  · obtain ⟨a, ns, rfl, _⟩ := h
    rfl
  · obtain ⟨a, ns, rfl, hs, hl, k⟩ := h
    refine ⟨_, (pss_cons (ps_for PassesOwn.never rfl (pi_range1 (by rfl) T.z_range (pa_cons (pe_callB (call_max2 rfl) (by rfl) T.z_max (by decide +kernel) (pa_cons pe_int (pa_cons (pe_callB (call_min2 rfl) (by rfl) T.z_min (by decide +kernel) (pa_cons pe_int (pa_cons (pe_callB call_len_seq (by rfl) T.z_len PySem.boot_len (pa_cons (pv 0) pa_nil)) pa_nil))) pa_nil))) pa_nil)) (pg_name (i := 1) sc_law.nd rfl (by first | exact Or.inl rfl | exact Or.inr rfl)) (pss_cons (ps_set (i := 2) sc_law.nd rfl (by first | exact Or.inl rfl | exact Or.inr rfl) (pe_call (ok__law_jug T) (hr.mono (by decide)) (by rfl) T.g__law_jug T.f__law_jug.kp (b__law_jug T) .nil pass0 (pa_cons (pv 0) (pa_cons (pv 1) pa_nil)))) (pss_cons (ps_set (i := 3) sc_law.nd rfl (by first | exact Or.inl rfl | exact Or.inr rfl) (pe_ix ix_list (pe_lstG (pa_cons pe_int (pa_cons (pe_op op_add pe_int (pe_call (ok__law_pour T) (hr.mono (by decide)) (by rfl) T.g__law_pour T.f__law_pour.kp (b__law_pour T) .nil pass0 (pa_cons (pv 2) (pa_cons pe_int pa_nil)))) (pa_cons (pe_op op_add pe_int (pe_call (ok__law_pour T) (hr.mono (by decide)) (by rfl) T.g__law_pour T.f__law_pour.kp (b__law_pour T) .nil pass0 (pa_cons (pv 2) (pa_cons (pe_op op_powW pe_int pe_int) pa_nil)))) pa_nil)))) (pe_call (ok__law_pour T) (hr.mono (by decide)) (by rfl) T.g__law_pour T.f__law_pour.kp (b__law_pour T) .nil pass0 (pa_cons (pv 2) (pa_cons pe_int pa_nil))) (fun _ _ => rfl))) (pss_cons (ps_set (i := 4) sc_law.nd rfl (by first | exact Or.inl rfl | exact Or.inr rfl) (pe_tupG (pa_cons (pe_call (ok__law_pour T) (hr.mono (by decide)) (by rfl) T.g__law_pour T.f__law_pour.kp (b__law_pour T) .nil pass0 (pa_cons (pv 2) (pa_cons pe_int pa_nil))) (pa_cons (pe_call (ok__law_pour T) (hr.mono (by decide)) (by rfl) T.g__law_pour T.f__law_pour.kp (b__law_pour T) .nil pass0 (pa_cons (pv 2) (pa_cons pe_int pa_nil))) pa_nil)))) (pss_cons (ps_if (pt_not (pt_val (pe_call (ok__law_effects_right T) (hr.mono (by decide)) (by rfl) T.g__law_effects_right T.f__law_effects_right.kp (b__law_effects_right T) .nil pass0 (pa_cons (pe_ix ix_list (pe_lstG (pa_cons pe_int (pa_cons pe_int (pa_cons pe_int (pa_cons pe_int (pa_cons pe_int (pa_cons pe_int pa_nil))))))) (pe_call (ok__law_pour T) (hr.mono (by decide)) (by rfl) T.g__law_pour T.f__law_pour.kp (b__law_pour T) .nil pass0 (pa_cons (pv 2) (pa_cons pe_int pa_nil))) (fun _ _ => rfl)) (pa_cons (pv 3) pa_nil))))) (pss_one (ps_ret pe_bl)) pss_nil) (pss_cons (ps_for PassesOwn.never rfl (pi_range1 (by rfl) T.z_range (pa_cons pe_int pa_nil)) (pg_name (i := 5) sc_law.nd rfl (by first | exact Or.inl rfl | exact Or.inr rfl)) (pss_cons (ps_set (i := 6) sc_law.nd rfl (by first | exact Or.inl rfl | exact Or.inr rfl) (pe_tupG (pa_cons (pe_call (ok__law_pour T) (hr.mono (by decide)) (by rfl) T.g__law_pour T.f__law_pour.kp (b__law_pour T) .nil pass0 (pa_cons (pv 2) (pa_cons (pe_op op_add (pe_ix ix_tup (pv 4) pe_int (fun _ _ => rfl)) pe_int) pa_nil))) (pa_cons (pe_call (ok__law_pour T) (hr.mono (by decide)) (by rfl) T.g__law_pour T.f__law_pour.kp (b__law_pour T) .nil pass0 (pa_cons (pv 2) (pa_cons (pe_op op_add (pe_ix ix_tup (pv 4) pe_int (fun _ _ => rfl)) pe_int) pa_nil))) pa_nil)))) (pss_cons (ps_set (i := 7) sc_law.nd rfl (by first | exact Or.inl rfl | exact Or.inr rfl) (pe_tupG (pa_cons (pe_call (ok__law_pour T) (hr.mono (by decide)) (by rfl) T.g__law_pour T.f__law_pour.kp (b__law_pour T) .nil pass0 (pa_cons (pv 2) (pa_cons (pe_op op_add (pe_ix ix_tup (pv 4) pe_int (fun _ _ => rfl)) pe_int) pa_nil))) (pa_cons (pe_call (ok__law_pour T) (hr.mono (by decide)) (by rfl) T.g__law_pour T.f__law_pour.kp (b__law_pour T) .nil pass0 (pa_cons (pv 2) (pa_cons (pe_op op_add (pe_ix ix_tup (pv 4) pe_int (fun _ _ => rfl)) pe_int) pa_nil))) pa_nil)))) (pss_one (ps_if (pt_not (pt_val (pe_call (ok__law_goal_right T) (hr.mono (by decide)) (by rfl) T.g__law_goal_right T.f__law_goal_right.kp (b__law_goal_right T) .nil pass0 (pa_cons (pv 4) (pa_cons (pv 6) (pa_cons (pv 7) (pa_cons (pv 3) pa_nil))))))) (pss_one (ps_ret pe_bl)) pss_nil))))) (pss_cons (ps_if (PW.pt (pw_or (pt_cmpR (op_neD hr.units) (pe_call (ok_fewest_turns T) (hr.mono (by decide)) (by rfl) T.g_fewest_turns T.f_fewest_turns.kp (b_fewest_turns T) .nil passL (pa_cons (pv 4) (pa_cons (pv 6) (pa_cons (pv 6) pa_nil)))) (pe_lstG pa_nil) (nomark _)) (pw_or1 (pt_not (pt_val (pe_call (ok__law_errors_right T) (hr.mono (by decide)) (by rfl) T.g__law_errors_right T.f__law_errors_right.kp (b__law_errors_right T) .nil pass0 (pa_cons (pv 2) (pa_cons (pv 4) pa_nil)))))))) (pss_one (ps_ret pe_bl)) pss_nil) (pss_one (ps_if (pt_not (pt_val (pe_call (ok__law_great_right T) (hr.mono (by decide)) (by rfl) T.g__law_great_right T.f__law_great_right.kp (b__law_great_right T) .nil pass0 (pa_cons (pv 2) pa_nil)))) (pss_one (ps_ret pe_bl)) pss_nil))))))))) (pss_one (ps_ret pe_bl))), ?_⟩
    refine ⟨_, rfl, _, _, rfl, .inl hs, _, _, rfl, _, _, rfl, ?_⟩
    have hN : ∃ N : Int, (if (if ((ns.map V.int).length : Int) < 2 then ((ns.map V.int).length : Int) else 2) > 1 then (if ((ns.map V.int).length : Int) < 2 then ((ns.map V.int).length : Int) else 2) else 1) = N ∧ 1 ≤ N ∧ N ≤ 2 := ⟨_, rfl, by split <;> omega, by split <;> split <;> omega⟩
    obtain ⟨N, eN, N1, N3⟩ := hN
    rw [eN]
    have t28 : ((10 : Int) ^ (28 : Int).toNat) = 10000000000000000000000000000 := by decide +kernel
    refine ⟨_, rfl, (by omega), (by omega), for_range (lo := 0) (n := N.toNat) (fun i σ H' => ∃ v1 v2 v3 v4 v5 v6 v7, σ = [some (.ref a), v1, v2, v3, v4, v5, v6, v7] ∧ Ex H H') ⟨_, _, _, _, _, _, _, rfl, Evl.Ex.refl _⟩ ?_ ?_⟩
    · rintro i σ H0 hi ⟨v1, v2, v3, v4, v5, v6, v7, rfl, e0⟩
      refine ⟨_, rfl, _, rfl, a, ns, _, rfl, Evl.ex_l e0 hs, by omega, by omega, fun j H1 nj e1 j1 => ?_⟩
      have njH : H j = none := Evl.fresh_back e0 nj
      -- width
      refine ⟨_, rfl, j, _, _, rfl, j1, by decide, by decide, by decide, fun d1 H2 d10 d11 x2 j2 => ?_⟩
      refine ⟨_, _, rfl, rfl, _, rfl, _, _, rfl, rfl, (show CPowW 10 28 by constructor <;> decide +kernel), j, _, _, rfl, j2, by decide, by omega, by omega, fun d2 H3 d20 d21 x3 j3 => ?_⟩
      refine ⟨_, _, rfl, rfl, (by show 3 ≤ sizeLine; decide), fun p4 H4 n4 e4 h4 => ?_⟩
      refine ⟨_, rfl, j, _, _, rfl, j3.ex e4, by decide, by decide, by decide, fun d3 H5 d30 d31 x5 j5 => ?_⟩
      have n4j : p4 ≠ j := j3.ne n4
      obtain ⟨wd, hwd, ewd⟩ := sel3 (x := 1) (y := 2 + d1) (z := 1 + d2) d30 d31
      refine ⟨_, _, _, _, rfl, rfl, sqI (x5 _ _ n4j h4), hwd, ?_⟩
      have wd0 : 1 ≤ wd := by omega
      have wd1 : wd < 2 ^ 100 := by omega
      have x15 : Exj j H1 H5 := x2.trans (x3.trans ((Exj.of e4).trans x5))
      -- rooms
      refine ⟨_, rfl, j, _, _, rfl, j5, by decide, by decide, by decide, fun r1 H6 r10 r11 x6 j6 => ?_⟩
      refine ⟨_, rfl, j, _, _, rfl, j6, by decide, by decide, by decide, fun r2 H7 r20 r21 x7 j7 => ?_⟩
      refine ⟨(by show 2 ≤ sizeLine; decide), fun ra H8 n8 e8 h8 => ?_⟩
      have j8 := j7.ex e8
      have raj := j7.ne n8
      have h8 : H8 ra = some (.tup (t2 (r1, r2))) := h8
      -- effects right
      refine ⟨(by show 6 ≤ sizeLine; decide), fun p9 H9 n9 e9 h9 => ?_⟩
      have j9 := j8.ex e9
      have p9j := j8.ne n9
      refine ⟨_, rfl, j, _, _, rfl, j9, by decide, by decide, by decide, fun d4 H10 d40 d41 x10 j10 => ?_⟩
      obtain ⟨sv, hsv, size, rfl, z0, z3⟩ := sel6 (u0 := .int 0) (u1 := .int 1) (u2 := .int 2) (u3 := .int 3) (u4 := .int 3) (u5 := .int 3) (P := fun v => ∃ z : Int, v = .int z ∧ 0 ≤ z ∧ z ≤ 3) d40 d41 ⟨_, rfl, by decide, by decide⟩ ⟨_, rfl, by decide, by decide⟩ ⟨_, rfl, by decide, by decide⟩ ⟨_, rfl, by decide, by decide⟩ ⟨_, rfl, by decide, by decide⟩ ⟨_, rfl, by decide, by decide⟩
      refine ⟨_, _, _, _, rfl, rfl, sqI (x10 _ _ p9j h9), hsv, _, rfl, size, wd, rfl, z0, z3, wd0, wd1, fun H11 e11 => ?_⟩
      refine ⟨_, rfl, iteF ?_⟩
      have j11 := j10.ex e11
      have h11 := e11 _ _ (x10 _ _ raj (e9 _ _ h8))
      have x111 : Exj j H1 H11 := x15.trans (x6.trans (x7.trans ((Exj.of (e8.trans e9)).trans (x10.trans (Exj.of e11)))))
      -- goals
      refine ⟨_, rfl, (by decide), (by decide), for_range (lo := 0) (n := 2) (fun i' σ H' => ∃ v5 v6 v7, σ = [some (.ref a), some (.int (0 + (i : Int))), some (.ref j), some (.int wd), some (.ref ra), v5, v6, v7] ∧ Exj j H11 H' ∧ Jug H' j (20 + 10 * i') ∧ (0 < i' → ∃ sp S, v6 = some (.ref sp) ∧ H' sp = some (.tup (t2 S)) ∧ Ok (r1, r2) S)) ⟨_, _, _, rfl, Exj.refl _ _, j11.mono (by omega), fun z => absurd z (by decide)⟩ ?_ ?_⟩
      · rintro i' σ K0 hi' ⟨v5, v6, v7, rfl, y0, jk0, _⟩
        have i2 : i' < 2 := hi'
        have g0 := y0 _ _ raj h11
        refine ⟨_, rfl, _, rfl, _, _, _, _, rfl, rfl, sqT g0, at0, _, _, rfl, rfl, j, _, _, rfl, jk0, by omega, by omega, by omega, fun s1 K1 s10 s11 y1 jk1 => ?_⟩
        have g1 := y1 _ _ raj g0
        refine ⟨_, rfl, _, rfl, _, _, _, _, rfl, rfl, sqT g1, at1, _, _, rfl, rfl, j, _, _, rfl, jk1, by omega, by omega, by omega, fun s2 K2 s20 s21 y2 jk2 => ?_⟩
        have g2 := y2 _ _ raj g1
        refine ⟨(by show 2 ≤ sizeLine; decide), fun sp K3 m3 z3' q3 => ?_⟩
        have jk3 := jk2.ex z3'
        have spj := jk2.ne m3
        have q3 : K3 sp = some (.tup (t2 (s1, s2))) := q3
        have g3 := z3' _ _ g2
        refine ⟨_, rfl, _, rfl, _, _, _, _, rfl, rfl, sqT g3, at0, _, _, rfl, rfl, j, _, _, rfl, jk3, by omega, by omega, by omega, fun t1 K4 t10 t11 y4 jk4 => ?_⟩
        have g4 := y4 _ _ raj g3
        refine ⟨_, rfl, _, rfl, _, _, _, _, rfl, rfl, sqT g4, at1, _, _, rfl, rfl, j, _, _, rfl, jk4, by omega, by omega, by omega, fun t2' K5 t20 t21 y5 jk5 => ?_⟩
        have g5 := y5 _ _ raj g4
        refine ⟨(by show 2 ≤ sizeLine; decide), fun gp K6 m6 z6 q6 => ?_⟩
        have q6 : K6 gp = some (.tup (t2 (t1, t2'))) := q6
        have s6 := z6 _ _ (y5 _ _ spj (y4 _ _ spj q3))
        have okS : Ok (r1, r2) (s1, s2) := ⟨s10, by show s1 ≤ r1; omega, s20, by show s2 ≤ r2; omega⟩
        have okG : Ok (r1, r2) (t1, t2') := ⟨t10, by show t1 ≤ r1; omega, t20, by show t2' ≤ r2; omega⟩
        refine ⟨_, rfl, _, rfl, _, rfl, _, rfl, ra, sp, gp, (r1, r2), (s1, s2), (t1, t2'), wd, rfl, sqT (z6 _ _ g5), sqT s6, sqT q6, r10, by show r1 ≤ 3; omega, r20, by show r2 ≤ 3; omega, okS, okG, wd0, wd1, fun K7 z7 => ?_⟩
        refine ⟨_, rfl, iteF ?_⟩
        refine ⟨_, _, _, rfl, y0.trans (y1.trans (y2.trans ((Exj.of z3').trans (y4.trans (y5.trans (Exj.of (z6.trans z7))))))), (jk5.ex (z6.trans z7)).mono (by omega), fun _ => ⟨sp, (s1, s2), rfl, z7 _ _ s6, okS⟩⟩
      rintro σ K0 ⟨v5, v6, v7, rfl, y0, jk0, hsp⟩
      obtain ⟨sp, S, rfl, hS, okS⟩ := hsp (by decide)
      have g0 := y0 _ _ raj h11
      obtain ⟨o1, o2, o3, o4⟩ := id okS
      refine ⟨_, rfl, _, rfl, _, rfl, ra, sp, sp, (r1, r2), S, S, rfl, sqT g0, sqT hS, sqT hS, fun _ _ _ _ p1 K1 m1 z1 q1 => ?_, fun z => by dsimp only at z; omega, fun _ z => by dsimp only at z; omega, fun _ _ z => absurd ⟨o1, o2⟩ z, fun _ _ _ _ z => absurd ⟨o3, o4⟩ z, fun _ _ _ z => absurd ⟨o1, o2⟩ z, fun _ _ _ _ _ z => absurd ⟨o3, o4⟩ z⟩
      rw [few_same] at q1
      refine ⟨(by show 0 ≤ sizeLine; decide), fun p2 K2 m2 z2 q2 => ?_⟩
      refine neI_ (xs := []) (ys := []) (sqI (z2 _ _ q1)) (sqI q2) ⟨_, rfl, ifF rfl ?_⟩
      have z12 := z1.trans z2
      refine ⟨_, rfl, _, rfl, j, ra, (r1, r2), _, rfl, jk0.ex z12, by decide, z12 _ _ g0, r10, by show r1 ≤ 3; omega, r20, by show r2 ≤ 3; omega, fun K3 y3 jk3 => ?_⟩
      refine ⟨_, rfl, iteF ?_⟩
      refine ⟨_, rfl, j, _, rfl, jk3, by decide, fun K4 y4 jk4 => ?_⟩
      refine ⟨_, rfl, iteF ?_⟩
      exact ⟨_, _, _, _, _, _, _, rfl, exj_ex (e0.trans e1) njH (x111.trans (y0.trans ((Exj.of z12).trans (y3.trans y4))))⟩
    · rintro σ H' ⟨v1, v2, v3, v4, v5, v6, v7, rfl, e⟩
      exact k H'
end
end K36
namespace K36
open PySem L2 My
theorem all_mk {K : PySem.W.Frag} {h : Heap} {mg : Str → Option Value} (X : K.In h) (G : h.Ns mainGlobals mg)
    {f0 : Addr} {od0 an0 : Option Addr} {sl0 : Array (Option Value)} {oc0 kV0 dc0 pm0 cd0 ct0 : Value}
    (a0 : PySem.W.nsIn K mainGlobals "need_from" = some (some (.ref f0))) (l0 : K.lookup f0 = some ⟨oc0, od0, .func (PySem.W.fnOf "need_from" "need_from" (defArgs s_need_from) (defBody s_need_from) (defScope s_need_from) .none kV0 dc0 pm0 an0 cd0 ct0), sl0⟩) (c0 : PySem.W.codeIn K cd0 "need_from" = true) (k0 : PySem.W.keepIn K (.ref f0) = true)
    {f1 : Addr} {od1 an1 : Option Addr} {sl1 : Array (Option Value)} {oc1 kV1 dc1 pm1 cd1 ct1 : Value}
    (a1 : PySem.W.nsIn K mainGlobals "need_rooms" = some (some (.ref f1))) (l1 : K.lookup f1 = some ⟨oc1, od1, .func (PySem.W.fnOf "need_rooms" "need_rooms" (defArgs s_need_rooms) (defBody s_need_rooms) (defScope s_need_rooms) .none kV1 dc1 pm1 an1 cd1 ct1), sl1⟩) (c1 : PySem.W.codeIn K cd1 "need_rooms" = true) (k1 : PySem.W.keepIn K (.ref f1) = true)
    {f2 : Addr} {od2 an2 : Option Addr} {sl2 : Array (Option Value)} {oc2 kV2 dc2 pm2 cd2 ct2 : Value}
    (a2 : PySem.W.nsIn K mainGlobals "need_scrolls" = some (some (.ref f2))) (l2 : K.lookup f2 = some ⟨oc2, od2, .func (PySem.W.fnOf "need_scrolls" "need_scrolls" (defArgs s_need_scrolls) (defBody s_need_scrolls) (defScope s_need_scrolls) .none kV2 dc2 pm2 an2 cd2 ct2), sl2⟩) (c2 : PySem.W.codeIn K cd2 "need_scrolls" = true) (k2 : PySem.W.keepIn K (.ref f2) = true)
    {f3 : Addr} {od3 an3 : Option Addr} {sl3 : Array (Option Value)} {oc3 kV3 dc3 pm3 cd3 ct3 : Value}
    (a3 : PySem.W.nsIn K mainGlobals "need_effect" = some (some (.ref f3))) (l3 : K.lookup f3 = some ⟨oc3, od3, .func (PySem.W.fnOf "need_effect" "need_effect" (defArgs s_need_effect) (defBody s_need_effect) (defScope s_need_effect) .none kV3 dc3 pm3 an3 cd3 ct3), sl3⟩) (c3 : PySem.W.codeIn K cd3 "need_effect" = true) (k3 : PySem.W.keepIn K (.ref f3) = true)
    {f4 : Addr} {od4 an4 : Option Addr} {sl4 : Array (Option Value)} {oc4 kV4 dc4 pm4 cd4 ct4 : Value}
    (a4 : PySem.W.nsIn K mainGlobals "check_effect" = some (some (.ref f4))) (l4 : K.lookup f4 = some ⟨oc4, od4, .func (PySem.W.fnOf "check_effect" "check_effect" (defArgs s_check_effect) (defBody s_check_effect) (defScope s_check_effect) .none kV4 dc4 pm4 an4 cd4 ct4), sl4⟩) (c4 : PySem.W.codeIn K cd4 "check_effect" = true) (k4 : PySem.W.keepIn K (.ref f4) = true)
    {f5 : Addr} {od5 an5 : Option Addr} {sl5 : Array (Option Value)} {oc5 kV5 dc5 pm5 cd5 ct5 : Value}
    (a5 : PySem.W.nsIn K mainGlobals "after_turn" = some (some (.ref f5))) (l5 : K.lookup f5 = some ⟨oc5, od5, .func (PySem.W.fnOf "after_turn" "after_turn" (defArgs s_after_turn) (defBody s_after_turn) (defScope s_after_turn) .none kV5 dc5 pm5 an5 cd5 ct5), sl5⟩) (c5 : PySem.W.codeIn K cd5 "after_turn" = true) (k5 : PySem.W.keepIn K (.ref f5) = true)
    {f6 : Addr} {od6 an6 : Option Addr} {sl6 : Array (Option Value)} {oc6 kV6 dc6 pm6 cd6 ct6 : Value}
    (a6 : PySem.W.nsIn K mainGlobals "scrolls_after" = some (some (.ref f6))) (l6 : K.lookup f6 = some ⟨oc6, od6, .func (PySem.W.fnOf "scrolls_after" "scrolls_after" (defArgs s_scrolls_after) (defBody s_scrolls_after) (defScope s_scrolls_after) .none kV6 dc6 pm6 an6 cd6 ct6), sl6⟩) (c6 : PySem.W.codeIn K cd6 "scrolls_after" = true) (k6 : PySem.W.keepIn K (.ref f6) = true)
    {f7 : Addr} {od7 an7 : Option Addr} {sl7 : Array (Option Value)} {oc7 kV7 dc7 pm7 cd7 ct7 : Value}
    (a7 : PySem.W.nsIn K mainGlobals "turned_by" = some (some (.ref f7))) (l7 : K.lookup f7 = some ⟨oc7, od7, .func (PySem.W.fnOf "turned_by" "turned_by" (defArgs s_turned_by) (defBody s_turned_by) (defScope s_turned_by) .none kV7 dc7 pm7 an7 cd7 ct7), sl7⟩) (c7 : PySem.W.codeIn K cd7 "turned_by" = true) (k7 : PySem.W.keepIn K (.ref f7) = true)
    {f8 : Addr} {od8 an8 : Option Addr} {sl8 : Array (Option Value)} {oc8 kV8 dc8 pm8 cd8 ct8 : Value}
    (a8 : PySem.W.nsIn K mainGlobals "turns_to_one" = some (some (.ref f8))) (l8 : K.lookup f8 = some ⟨oc8, od8, .func (PySem.W.fnOf "turns_to_one" "turns_to_one" (defArgs s_turns_to_one) (defBody s_turns_to_one) (defScope s_turns_to_one) .none kV8 dc8 pm8 an8 cd8 ct8), sl8⟩) (c8 : PySem.W.codeIn K cd8 "turns_to_one" = true) (k8 : PySem.W.keepIn K (.ref f8) = true)
    {f9 : Addr} {od9 an9 : Option Addr} {sl9 : Array (Option Value)} {oc9 kV9 dc9 pm9 cd9 ct9 : Value}
    (a9 : PySem.W.nsIn K mainGlobals "turns_for" = some (some (.ref f9))) (l9 : K.lookup f9 = some ⟨oc9, od9, .func (PySem.W.fnOf "turns_for" "turns_for" (defArgs s_turns_for) (defBody s_turns_for) (defScope s_turns_for) .none kV9 dc9 pm9 an9 cd9 ct9), sl9⟩) (c9 : PySem.W.codeIn K cd9 "turns_for" = true) (k9 : PySem.W.keepIn K (.ref f9) = true)
    {f10 : Addr} {od10 an10 : Option Addr} {sl10 : Array (Option Value)} {oc10 kV10 dc10 pm10 cd10 ct10 : Value}
    (a10 : PySem.W.nsIn K mainGlobals "number_of_effects" = some (some (.ref f10))) (l10 : K.lookup f10 = some ⟨oc10, od10, .func (PySem.W.fnOf "number_of_effects" "number_of_effects" (defArgs s_number_of_effects) (defBody s_number_of_effects) (defScope s_number_of_effects) .none kV10 dc10 pm10 an10 cd10 ct10), sl10⟩) (c10 : PySem.W.codeIn K cd10 "number_of_effects" = true) (k10 : PySem.W.keepIn K (.ref f10) = true)
    {f11 : Addr} {od11 an11 : Option Addr} {sl11 : Array (Option Value)} {oc11 kV11 dc11 pm11 cd11 ct11 : Value}
    (a11 : PySem.W.nsIn K mainGlobals "fewest_turns" = some (some (.ref f11))) (l11 : K.lookup f11 = some ⟨oc11, od11, .func (PySem.W.fnOf "fewest_turns" "fewest_turns" (defArgs s_fewest_turns) (defBody s_fewest_turns) (defScope s_fewest_turns) .none kV11 dc11 pm11 an11 cd11 ct11), sl11⟩) (c11 : PySem.W.codeIn K cd11 "fewest_turns" = true) (k11 : PySem.W.keepIn K (.ref f11) = true)
    {f12 : Addr} {od12 an12 : Option Addr} {sl12 : Array (Option Value)} {oc12 kV12 dc12 pm12 cd12 ct12 : Value}
    (a12 : PySem.W.nsIn K mainGlobals "_law_jug" = some (some (.ref f12))) (l12 : K.lookup f12 = some ⟨oc12, od12, .func (PySem.W.fnOf "_law_jug" "_law_jug" (defArgs s__law_jug) (defBody s__law_jug) (defScope s__law_jug) .none kV12 dc12 pm12 an12 cd12 ct12), sl12⟩) (c12 : PySem.W.codeIn K cd12 "_law_jug" = true) (k12 : PySem.W.keepIn K (.ref f12) = true)
    {f13 : Addr} {od13 an13 : Option Addr} {sl13 : Array (Option Value)} {oc13 kV13 dc13 pm13 cd13 ct13 : Value}
    (a13 : PySem.W.nsIn K mainGlobals "_law_pour" = some (some (.ref f13))) (l13 : K.lookup f13 = some ⟨oc13, od13, .func (PySem.W.fnOf "_law_pour" "_law_pour" (defArgs s__law_pour) (defBody s__law_pour) (defScope s__law_pour) .none kV13 dc13 pm13 an13 cd13 ct13), sl13⟩) (c13 : PySem.W.codeIn K cd13 "_law_pour" = true) (k13 : PySem.W.keepIn K (.ref f13) = true)
    {f14 : Addr} {od14 an14 : Option Addr} {sl14 : Array (Option Value)} {oc14 kV14 dc14 pm14 cd14 ct14 : Value}
    (a14 : PySem.W.nsIn K mainGlobals "_law_effect" = some (some (.ref f14))) (l14 : K.lookup f14 = some ⟨oc14, od14, .func (PySem.W.fnOf "_law_effect" "_law_effect" (defArgs s__law_effect) (defBody s__law_effect) (defScope s__law_effect) .none kV14 dc14 pm14 an14 cd14 ct14), sl14⟩) (c14 : PySem.W.codeIn K cd14 "_law_effect" = true) (k14 : PySem.W.keepIn K (.ref f14) = true)
    {f15 : Addr} {od15 an15 : Option Addr} {sl15 : Array (Option Value)} {oc15 kV15 dc15 pm15 cd15 ct15 : Value}
    (a15 : PySem.W.nsIn K mainGlobals "_law_lists" = some (some (.ref f15))) (l15 : K.lookup f15 = some ⟨oc15, od15, .func (PySem.W.fnOf "_law_lists" "_law_lists" (defArgs s__law_lists) (defBody s__law_lists) (defScope s__law_lists) .none kV15 dc15 pm15 an15 cd15 ct15), sl15⟩) (c15 : PySem.W.codeIn K cd15 "_law_lists" = true) (k15 : PySem.W.keepIn K (.ref f15) = true)
    {f16 : Addr} {od16 an16 : Option Addr} {sl16 : Array (Option Value)} {oc16 kV16 dc16 pm16 cd16 ct16 : Value}
    (a16 : PySem.W.nsIn K mainGlobals "_law_pairs" = some (some (.ref f16))) (l16 : K.lookup f16 = some ⟨oc16, od16, .func (PySem.W.fnOf "_law_pairs" "_law_pairs" (defArgs s__law_pairs) (defBody s__law_pairs) (defScope s__law_pairs) .none kV16 dc16 pm16 an16 cd16 ct16), sl16⟩) (c16 : PySem.W.codeIn K cd16 "_law_pairs" = true) (k16 : PySem.W.keepIn K (.ref f16) = true)
    {f17 : Addr} {od17 an17 : Option Addr} {sl17 : Array (Option Value)} {oc17 kV17 dc17 pm17 cd17 ct17 : Value}
    (a17 : PySem.W.nsIn K mainGlobals "_law_key" = some (some (.ref f17))) (l17 : K.lookup f17 = some ⟨oc17, od17, .func (PySem.W.fnOf "_law_key" "_law_key" (defArgs s__law_key) (defBody s__law_key) (defScope s__law_key) .none kV17 dc17 pm17 an17 cd17 ct17), sl17⟩) (c17 : PySem.W.codeIn K cd17 "_law_key" = true) (k17 : PySem.W.keepIn K (.ref f17) = true)
    {f18 : Addr} {od18 an18 : Option Addr} {sl18 : Array (Option Value)} {oc18 kV18 dc18 pm18 cd18 ct18 : Value}
    (a18 : PySem.W.nsIn K mainGlobals "_law_effects_right" = some (some (.ref f18))) (l18 : K.lookup f18 = some ⟨oc18, od18, .func (PySem.W.fnOf "_law_effects_right" "_law_effects_right" (defArgs s__law_effects_right) (defBody s__law_effects_right) (defScope s__law_effects_right) .none kV18 dc18 pm18 an18 cd18 ct18), sl18⟩) (c18 : PySem.W.codeIn K cd18 "_law_effects_right" = true) (k18 : PySem.W.keepIn K (.ref f18) = true)
    {f19 : Addr} {od19 an19 : Option Addr} {sl19 : Array (Option Value)} {oc19 kV19 dc19 pm19 cd19 ct19 : Value}
    (a19 : PySem.W.nsIn K mainGlobals "_law_goal_right" = some (some (.ref f19))) (l19 : K.lookup f19 = some ⟨oc19, od19, .func (PySem.W.fnOf "_law_goal_right" "_law_goal_right" (defArgs s__law_goal_right) (defBody s__law_goal_right) (defScope s__law_goal_right) .none kV19 dc19 pm19 an19 cd19 ct19), sl19⟩) (c19 : PySem.W.codeIn K cd19 "_law_goal_right" = true) (k19 : PySem.W.keepIn K (.ref f19) = true)
    {f20 : Addr} {od20 an20 : Option Addr} {sl20 : Array (Option Value)} {oc20 kV20 dc20 pm20 cd20 ct20 : Value}
    (a20 : PySem.W.nsIn K mainGlobals "_law_great_right" = some (some (.ref f20))) (l20 : K.lookup f20 = some ⟨oc20, od20, .func (PySem.W.fnOf "_law_great_right" "_law_great_right" (defArgs s__law_great_right) (defBody s__law_great_right) (defScope s__law_great_right) .none kV20 dc20 pm20 an20 cd20 ct20), sl20⟩) (c20 : PySem.W.codeIn K cd20 "_law_great_right" = true) (k20 : PySem.W.keepIn K (.ref f20) = true)
    {f21 : Addr} {od21 an21 : Option Addr} {sl21 : Array (Option Value)} {oc21 kV21 dc21 pm21 cd21 ct21 : Value}
    (a21 : PySem.W.nsIn K mainGlobals "_law_ticked" = some (some (.ref f21))) (l21 : K.lookup f21 = some ⟨oc21, od21, .func (PySem.W.fnOf "_law_ticked" "_law_ticked" (defArgs s__law_ticked) (defBody s__law_ticked) (defScope s__law_ticked) .none kV21 dc21 pm21 an21 cd21 ct21), sl21⟩) (c21 : PySem.W.codeIn K cd21 "_law_ticked" = true) (k21 : PySem.W.keepIn K (.ref f21) = true)
    {f22 : Addr} {od22 an22 : Option Addr} {sl22 : Array (Option Value)} {oc22 kV22 dc22 pm22 cd22 ct22 : Value}
    (a22 : PySem.W.nsIn K mainGlobals "_law_refused" = some (some (.ref f22))) (l22 : K.lookup f22 = some ⟨oc22, od22, .func (PySem.W.fnOf "_law_refused" "_law_refused" (defArgs s__law_refused) (defBody s__law_refused) (defScope s__law_refused) .none kV22 dc22 pm22 an22 cd22 ct22), sl22⟩) (c22 : PySem.W.codeIn K cd22 "_law_refused" = true) (k22 : PySem.W.keepIn K (.ref f22) = true)
    {f23 : Addr} {od23 an23 : Option Addr} {sl23 : Array (Option Value)} {oc23 kV23 dc23 pm23 cd23 ct23 : Value}
    (a23 : PySem.W.nsIn K mainGlobals "_law_errors_right" = some (some (.ref f23))) (l23 : K.lookup f23 = some ⟨oc23, od23, .func (PySem.W.fnOf "_law_errors_right" "_law_errors_right" (defArgs s__law_errors_right) (defBody s__law_errors_right) (defScope s__law_errors_right) .none kV23 dc23 pm23 an23 cd23 ct23), sl23⟩) (c23 : PySem.W.codeIn K cd23 "_law_errors_right" = true) (k23 : PySem.W.keepIn K (.ref f23) = true)
    {f24 : Addr} {od24 an24 : Option Addr} {sl24 : Array (Option Value)} {oc24 kV24 dc24 pm24 cd24 ct24 : Value}
    (a24 : PySem.W.nsIn K mainGlobals "law" = some (some (.ref f24))) (l24 : K.lookup f24 = some ⟨oc24, od24, .func (PySem.W.fnOf "law" "law" (defArgs s_law) (defBody s_law) (defScope s_law) .none kV24 dc24 pm24 an24 cd24 ct24), sl24⟩) (c24 : PySem.W.codeIn K cd24 "law" = true) (k24 : PySem.W.keepIn K (.ref f24) = true)
    {cD : Addr} {fI cI cdI : Addr} {ocI clI cclI : Value} {odI cldI cddI anI : Option Addr} {kVI docI pmI ctI : Value} {oslI cslI ccsI : Array (Option Value)} {vsI : Array Value} {flI : Str} {tfI : Tok} {cdD : ClassData}
    (aW : PySem.W.nsIn K mainGlobals "WindowError" = some (some (.ref cD))) (iI : PySem.W.findIn K (.ref cD) "__init__" = some (some (.ref fI)))
    (lI : K.lookup fI = some ⟨ocI, odI, .func (PySem.W.fnX "__init__" "WindowError.__init__" (defArgs s_init) (defBody s_init) (defScope s_init) [("__class__", cI)] .none kVI docI pmI anI (.ref cdI) ctI), oslI⟩) (qI : PySem.W.codeIn K (.ref cdI) "WindowError.__init__" = true)
    (ceI : K.lookup cI = some ⟨clI, cldI, .cell (some (.ref cD)), cslI⟩) (fiI : K.lookup cdI = some ⟨cclI, cddI, .fields vsI, ccsI⟩) (viI : vsI[2]? = some (.str flI tfI)) (wiI : ((PR.main.file : Str) == flI) = true) (clD : PySem.W.clsIn K cD = some cdD) (suI : PySem.W.nsIn K mainGlobals "super" = some none)
    (opI : PySem.W.nsIn K cStatics "thirdparty.any" = some none) (tyI : PySem.W.typeIn K (.ref fI) = some (.type "function"))
    {e0 : Addr} {nme0 qe0 : Str} {Ne0 : Addr} {bse0 : List Value} {sne0 : List Str} {sube0 : List Value} {abe0 : Bool} {cole0 : Option Bool} {dde0 : Option Addr} {m0e0 m1e0 m2e0 m3e0 m5e0 : Option Value}
    (aCe0 : PySem.W.nsIn K mainGlobals "WindowError" = some (some (.ref e0))) (xLe0 : K.lookup e0 = some (excClassObj nme0 qe0 e0 Ne0 bse0 PySem.HandSPX.veTail true sne0 sube0 abe0 cole0 dde0 m0e0 m1e0 m2e0 m3e0 m5e0 "ValueError.__new__")) (rve0 : e0 = cD)
    (sae0 : PySem.W.findIn K (.ref e0) "__setattr__" = some (some (.builtin "object.__setattr__"))) (gae0 : PySem.W.findIn K (.ref e0) "__getattribute__" = some (some (.builtin "BaseException.__getattribute__"))) (gge0 : PySem.W.findIn K (.ref e0) "__getattr__" = some none) (nve0 : PySem.W.findIn K (.ref e0) "value" = some none) (ine0 : PySem.W.findIn K (.ref e0) "__init__" = some (some (.ref fI)))
    (kCe0 : PySem.W.keepIn K (.ref e0) = true) (eCe0 : PySem.W.subIn K (.ref e0) (.type "BaseException") = some true) (tCe0 : PySem.W.typeIn K (.ref e0) = some (.type "type")) (hCe0 : PySem.W.hasDictIn K e0 = true) (mre0 : PySem.W.mroIn K e0 (.ref cD) = some true) (ice0 : PySem.W.isClsIn K e0 = true) (sve0 : PySem.W.subIn K (.ref e0) (.type "ValueError") = some true)
    {e1 : Addr} {nme1 qe1 : Str} {Ne1 : Addr} {bse1 : List Value} {sne1 : List Str} {sube1 : List Value} {abe1 : Bool} {cole1 : Option Bool} {dde1 : Option Addr} {m0e1 m1e1 m2e1 m3e1 m5e1 : Option Value}
    (aCe1 : PySem.W.nsIn K mainGlobals "InvalidNumber" = some (some (.ref e1))) (xLe1 : K.lookup e1 = some (excClassObj nme1 qe1 e1 Ne1 bse1 (.ref cD :: PySem.HandSPX.veTail) true sne1 sube1 abe1 cole1 dde1 m0e1 m1e1 m2e1 m3e1 m5e1 "ValueError.__new__")) (rve1 : (e1 == cD) = false)
    (sae1 : PySem.W.findIn K (.ref e1) "__setattr__" = some (some (.builtin "object.__setattr__"))) (gae1 : PySem.W.findIn K (.ref e1) "__getattribute__" = some (some (.builtin "BaseException.__getattribute__"))) (gge1 : PySem.W.findIn K (.ref e1) "__getattr__" = some none) (nve1 : PySem.W.findIn K (.ref e1) "value" = some none) (ine1 : PySem.W.findIn K (.ref e1) "__init__" = some (some (.ref fI)))
    (kCe1 : PySem.W.keepIn K (.ref e1) = true) (eCe1 : PySem.W.subIn K (.ref e1) (.type "BaseException") = some true) (tCe1 : PySem.W.typeIn K (.ref e1) = some (.type "type")) (hCe1 : PySem.W.hasDictIn K e1 = true) (mre1 : PySem.W.mroIn K e1 (.ref cD) = some true) (ice1 : PySem.W.isClsIn K e1 = true) (sve1 : PySem.W.subIn K (.ref e1) (.type "ValueError") = some true)
    {e2 : Addr} {nme2 qe2 : Str} {Ne2 : Addr} {bse2 : List Value} {sne2 : List Str} {sube2 : List Value} {abe2 : Bool} {cole2 : Option Bool} {dde2 : Option Addr} {m0e2 m1e2 m2e2 m3e2 m5e2 : Option Value}
    (aCe2 : PySem.W.nsIn K mainGlobals "InvalidValue" = some (some (.ref e2))) (xLe2 : K.lookup e2 = some (excClassObj nme2 qe2 e2 Ne2 bse2 (.ref cD :: PySem.HandSPX.veTail) true sne2 sube2 abe2 cole2 dde2 m0e2 m1e2 m2e2 m3e2 m5e2 "ValueError.__new__")) (rve2 : (e2 == cD) = false)
    (sae2 : PySem.W.findIn K (.ref e2) "__setattr__" = some (some (.builtin "object.__setattr__"))) (gae2 : PySem.W.findIn K (.ref e2) "__getattribute__" = some (some (.builtin "BaseException.__getattribute__"))) (gge2 : PySem.W.findIn K (.ref e2) "__getattr__" = some none) (nve2 : PySem.W.findIn K (.ref e2) "value" = some none) (ine2 : PySem.W.findIn K (.ref e2) "__init__" = some (some (.ref fI)))
    (kCe2 : PySem.W.keepIn K (.ref e2) = true) (eCe2 : PySem.W.subIn K (.ref e2) (.type "BaseException") = some true) (tCe2 : PySem.W.typeIn K (.ref e2) = some (.type "type")) (hCe2 : PySem.W.hasDictIn K e2 = true) (mre2 : PySem.W.mroIn K e2 (.ref cD) = some true) (ice2 : PySem.W.isClsIn K e2 = true) (sve2 : PySem.W.subIn K (.ref e2) (.type "ValueError") = some true)
    (xm_InvalidNumber_InvalidNumber : PySem.W.subIn K (.ref e1) (.ref e1) = some true)
    (xm_InvalidValue_InvalidNumber : PySem.W.subIn K (.ref e2) (.ref e1) = some false)
    (xm_InvalidValue_InvalidValue : PySem.W.subIn K (.ref e2) (.ref e2) = some true)
    (z_zip : PySem.W.nsIn K mainGlobals "zip" = some none)
    (z_min : PySem.W.nsIn K mainGlobals "min" = some none)
    (z_max : PySem.W.nsIn K mainGlobals "max" = some none)
    (z_len : PySem.W.nsIn K mainGlobals "len" = some none)
    (z_int : PySem.W.nsIn K mainGlobals "int" = some none)
    (z_sum : PySem.W.nsIn K mainGlobals "sum" = some none)
    (z_range : PySem.W.nsIn K mainGlobals "range" = some none)
    (z_abs : PySem.W.nsIn K mainGlobals "abs" = some none)
    (z_sorted : PySem.W.nsIn K mainGlobals "sorted" = some none)
    (z_tuple : PySem.W.nsIn K mainGlobals "tuple" = some none)
    : ∃ T : Txt K mg, T.d_law = PySem.W.fnOf "law" "law" (defArgs s_law) (defBody s_law) (defScope s_law) .none kV24 dc24 pm24 an24 cd24 ct24 ∧ T.a_law = f24 :=
  ⟨⟨f0, _, fun_mk (st := s_need_from) l0 c0 k0, PySem.W.mg_of X G a0, f1, _, fun_mk (st := s_need_rooms) l1 c1 k1, PySem.W.mg_of X G a1, f2, _, fun_mk (st := s_need_scrolls) l2 c2 k2, PySem.W.mg_of X G a2, f3, _, fun_mk (st := s_need_effect) l3 c3 k3, PySem.W.mg_of X G a3, f4, _, fun_mk (st := s_check_effect) l4 c4 k4, PySem.W.mg_of X G a4, f5, _, fun_mk (st := s_after_turn) l5 c5 k5, PySem.W.mg_of X G a5, f6, _, fun_mk (st := s_scrolls_after) l6 c6 k6, PySem.W.mg_of X G a6, f7, _, fun_mk (st := s_turned_by) l7 c7 k7, PySem.W.mg_of X G a7, f8, _, fun_mk (st := s_turns_to_one) l8 c8 k8, PySem.W.mg_of X G a8, f9, _, fun_mk (st := s_turns_for) l9 c9 k9, PySem.W.mg_of X G a9, f10, _, fun_mk (st := s_number_of_effects) l10 c10 k10, PySem.W.mg_of X G a10, f11, _, fun_mk (st := s_fewest_turns) l11 c11 k11, PySem.W.mg_of X G a11, f12, _, fun_mk (st := s__law_jug) l12 c12 k12, PySem.W.mg_of X G a12, f13, _, fun_mk (st := s__law_pour) l13 c13 k13, PySem.W.mg_of X G a13, f14, _, fun_mk (st := s__law_effect) l14 c14 k14, PySem.W.mg_of X G a14, f15, _, fun_mk (st := s__law_lists) l15 c15 k15, PySem.W.mg_of X G a15, f16, _, fun_mk (st := s__law_pairs) l16 c16 k16, PySem.W.mg_of X G a16, f17, _, fun_mk (st := s__law_key) l17 c17 k17, PySem.W.mg_of X G a17, f18, _, fun_mk (st := s__law_effects_right) l18 c18 k18, PySem.W.mg_of X G a18, f19, _, fun_mk (st := s__law_goal_right) l19 c19 k19, PySem.W.mg_of X G a19, f20, _, fun_mk (st := s__law_great_right) l20 c20 k20, PySem.W.mg_of X G a20, f21, _, fun_mk (st := s__law_ticked) l21 c21 k21, PySem.W.mg_of X G a21, f22, _, fun_mk (st := s__law_refused) l22 c22 k22, PySem.W.mg_of X G a22, f23, _, fun_mk (st := s__law_errors_right) l23 c23 k23, PySem.W.mg_of X G a23, f24, _, fun_mk (st := s_law) l24 c24 k24, PySem.W.mg_of X G a24, fI, cI, cdI, cD, _, ⟨⟨_, _, _, _, _, _, _, _, rfl, lI⟩, qI, ⟨_, _, _, ceI⟩, ⟨_, _, _, _, _, _, fiI, viI, wiI⟩, ⟨_, clD⟩, PySem.W.mg_none_of X G suI, by rfl, opI⟩, e0, ⟨⟨⟨_, _, _, _, _, _, _, _, _, _, _, _, _, _, _, xLe0, rfl⟩, sae0, eCe0, tCe0, kCe0⟩, ine0, tyI, nve0, mre0, sup_self xLe0 rve0, sve0, ⟨gae0, gge0, eCe0, hCe0⟩⟩, PySem.W.mg_of X G aCe0, e1, ⟨⟨⟨_, _, _, _, _, _, _, _, _, _, _, _, _, _, _, xLe1, rfl⟩, sae1, eCe1, tCe1, kCe1⟩, ine1, tyI, nve1, mre1, sup_child xLe1 rve1, sve1, ⟨gae1, gge1, eCe1, hCe1⟩⟩, PySem.W.mg_of X G aCe1, e2, ⟨⟨⟨_, _, _, _, _, _, _, _, _, _, _, _, _, _, _, xLe2, rfl⟩, sae2, eCe2, tCe2, kCe2⟩, ine2, tyI, nve2, mre2, sup_child xLe2 rve2, sve2, ⟨gae2, gge2, eCe2, hCe2⟩⟩, PySem.W.mg_of X G aCe2, exm_gen eCe1 ice1 tCe1 xm_InvalidNumber_InvalidNumber, exm_gen eCe1 ice1 tCe1 xm_InvalidValue_InvalidNumber, exm_gen eCe2 ice2 tCe2 xm_InvalidValue_InvalidValue, PySem.W.mg_none_of X G z_zip, PySem.W.mg_none_of X G z_min, PySem.W.mg_none_of X G z_max, PySem.W.mg_none_of X G z_len, PySem.W.mg_none_of X G z_int, PySem.W.mg_none_of X G z_sum, PySem.W.mg_none_of X G z_range, PySem.W.mg_none_of X G z_abs, PySem.W.mg_none_of X G z_sorted, PySem.W.mg_none_of X G z_tuple⟩, rfl, rfl⟩
theorem walk {l : PySem.W.OpenLaw} {q : Program} {loose : List Str} {XP : (Str → Option Value) → Heap → Prop} {YP : World → Heap → Prop} {d : DefRec} {K : Params → PySem.W.Frag} (hn : l.most = some 63) (hdf : d.params.defaults = [])
    (hY : ∀ (w : World) (h : Heap), YP w h → (K w.params).In h)
    (F : ∀ (w : World) (mg : Str → Option Value) (fa : Addr) (h : Heap), (K w.params).In h → h.Ns mainGlobals mg → mg d.name = some (.ref fa) →
      ∃ fd : FuncData, (∀ (s : Shared) (u : Value), BindsTo s fd ⟨[u], []⟩ [("_law_script", u)]) ∧ ∀ base : Heap, (K w.params).In base → base.Ns mainGlobals mg → FnOk l.prog w (K w.params) mg base CX0 8 fa fd ["_law_script"] (sp_law (K w.params))) :
    PySem.W.WalkO q loose XP YP l.row.toRowW d [] (fun f vs => PySem.call f vs) :=
  L2.walk_of (n := 63) (k := 8) (x := "_law_script") (CX := fun _ => CX0) (sp := fun w => sp_law (K w.params)) hn (by decide) hdf ⟨rfl, by decide, by decide⟩ hY F (fun _ _ a ns hl _ hS => ⟨a, ns, rfl, hS, hl, fun _ => rfl⟩) fun _ _ _ _ _ z => z
end K36
open PySem PySem.W PyProof.Rows
set_option maxRecDepth 100000 in
set_option maxHeartbeats 0 in
theorem PySem.Challenge.cw_listwindow_k36_fewest_turns_by_all_lists_holds : PySem.Challenge.rw_listwindow_k36_fewest_turns_by_all_lists.Holds := by
  w_on; o_law; k_head; (case hw => w_witness2)
  k_fill
  refine K36.walk (l := PySem.Challenge.rw_listwindow_k36_fewest_turns_by_all_lists) rfl rfl (fun w h Y => PySem.W.kIn_of Y) ?F
  case F =>
    intro w mg fa h KX G hmg
    have T : ∃ T : K36.Txt _ mg, _ ∧ _ := K36.all_mk KX G (by k_is) (by k_is) (by k_is) (by k_is) (by k_is) (by k_is) (by k_is) (by k_is) (by k_is) (by k_is) (by k_is) (by k_is) (by k_is) (by k_is) (by k_is) (by k_is) (by k_is) (by k_is) (by k_is) (by k_is) (by k_is) (by k_is) (by k_is) (by k_is) (by k_is) (by k_is) (by k_is) (by k_is) (by k_is) (by k_is) (by k_is) (by k_is) (by k_is) (by k_is) (by k_is) (by k_is) (by k_is) (by k_is) (by k_is) (by k_is) (by k_is) (by k_is) (by k_is) (by k_is) (by k_is) (by k_is) (by k_is) (by k_is) (by k_is) (by k_is) (by k_is) (by k_is) (by k_is) (by k_is) (by k_is) (by k_is) (by k_is) (by k_is) (by k_is) (by k_is) (by k_is) (by k_is) (by k_is) (by k_is) (by k_is) (by k_is) (by k_is) (by k_is) (by k_is) (by k_is) (by k_is) (by k_is) (by k_is) (by k_is) (by k_is) (by k_is) (by k_is) (by k_is) (by k_is) (by k_is) (by k_is) (by k_is) (by k_is) (by k_is) (by k_is) (by k_is) (by k_is) (by k_is) (by k_is) (by k_is) (by k_is) (by k_is) (by k_is) (by k_is) (by k_is) (by k_is) (by k_is) (by k_is) (by k_is) (by k_is) (by k_is) (by k_is) (by k_is) (by k_is) (by k_is) (by k_is) (by rfl) (by decide +kernel) (by k_is) (by k_is) (by k_is) (by k_is) (by k_is) (by k_is) (by rfl) (by k_is) (by k_is) (by k_is) (by k_is) (by k_is) (by k_is) (by k_is) (by k_is) (by k_is) (by k_is) (by k_is) (by k_is) (by k_is) (by k_is) (by rfl) (by k_is) (by k_is) (by k_is) (by k_is) (by k_is) (by k_is) (by k_is) (by k_is) (by k_is) (by k_is) (by k_is) (by k_is) (by k_is) (by k_is) (by rfl) (by k_is) (by k_is) (by k_is) (by k_is) (by k_is) (by k_is) (by k_is) (by k_is) (by k_is) (by k_is) (by k_is) (by k_is) (by first | rfl | k_is) (by first | rfl | k_is) (by first | rfl | k_is) (by k_is) (by k_is) (by k_is) (by k_is) (by k_is) (by k_is) (by k_is) (by k_is) (by k_is) (by k_is)
    obtain ⟨T, e1, e2⟩ := T
    have e3 := hmg.symm.trans T.g_law
    cases e3
    exact ⟨T.d_law, fun s v => by rw [e1]; exact .of_eq rfl, fun base _ _ => K36.ok_law T⟩
#print axioms PySem.Challenge.cw_listwindow_k36_fewest_turns_by_all_lists_holds

