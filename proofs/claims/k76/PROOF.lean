import PyProof.Rows.All
import Wide.All
import OpenK.AllK
import Wide.FinOn
import HandS.ForMost
import HandS.Wide
import HandS.Style
import HandS.SortInts
import HandS.IsInst
import HandS.Evl
import HandS.Walk
import HandS.ForExc
import HandS.ExcInit
import HandS.ExcField
import HandS.ExcSuper
import HandS.Nested
import KE.KExcSuper
import HandS.Zip
import HandS.Sort
import PyProof.ReprRoads
import HandS.DictTup
import HandS.Set
import HandS.Dict
import HandS.DictComp
import HandS.NoneIn
import HandS.Conv
import HandS.OwnEq
import HandS.Property
import KE.SortKeyed
import HandS.SortOrd
import HandS.SetFor
import HandS.Strs
import HandS.Star
import KE.SortData
import KE.GoesEnum
import KE.KDictKeyed
import KE.KDictDisplayH
import HandS.TupLen
import KE.KDictPairs
import HandS.TupMul
import HandS.TupAny
import PySem.Challenge.RW_listwindow_k76_whole_costs_click_by_clic
set_option Elab.async false
set_option linter.all false
set_option maxRecDepth 100000
set_option maxHeartbeats 4000000
/-! My own rules over the hand layer: calls by keywords alone, powers of great ints, what a heap keeps. -/
namespace My
open PySem PySem.Spec PyProof.Rows L2
/-! ### calls by keywords -/
def kg (n m : Nat) (π : List Nat) {α : Type} (us ws : List α) : List α := if us.length = n ∧ ws.length = m then π.filterMap (fun i => (us ++ ws)[i]?) else []
theorem vals_pick {xs : List V} {us : List Value} (r : Vals xs us) : ∀ (π : List Nat), Vals (π.filterMap (fun i => xs[i]?)) (π.filterMap (fun i => us[i]?))
  | [] => .nil
  | i :: π => by
    have ih := vals_pick r π
    cases e : xs[i]? with
    | none =>
      rw [List.filterMap_cons, e, List.filterMap_cons, r.none_of e]
      exact ih
    | some x =>
      obtain ⟨u, h1, h2⟩ := r.get e
      rw [List.filterMap_cons, e, List.filterMap_cons, h1]
      exact .cons h2 ih
theorem kg_rel {n m : Nat} {π : List Nat} {vs zs : List V} {us ws : List Value} (r : Vals vs us) (rz : Vals zs ws) : Vals (kg n m π vs zs) (kg n m π us ws) := by
  unfold kg
  rw [r.length, rz.length]
  split
  · exact vals_pick (r.append rz) π
  · exact .nil
theorem kbinds {K : PySem.W.Frag} {x qual : Str} {st : Stmt} {f : Addr} {fd : FuncData} {ps ks : List Str} (n m : Nat) (π : List Nat) (F : Fun K x qual st f fd) (hp : 0 < ps.length)
    (h : ∀ (kV doc pm : Value) (an : Option Addr) (cdv ct : Value) (us ws : List Value), us.length = n → ws.length = m → bindArgs (PySem.W.fnOf x qual (defArgs st) (defBody st) (defScope st) .none kV doc pm an cdv ct) ⟨us, ks.zip ws⟩ = pure (ps.zip (kg n m π us ws))) : KBinds K fd ps ks (kg n m π) (kg n m π) := by
  obtain ⟨oc, od, kV, doc, pm, an, cdv, ct, osl, rfl, lk, hcd⟩ := F.ex
  refine ⟨fun s us ws _ hl => ?_, fun r rz => kg_rel r rz⟩
  by_cases z : us.length = n ∧ ws.length = m
  · exact .of_eq (h kV doc pm an cdv ct us ws z.1 z.2)
  · unfold kg at hl
    rw [if_neg z] at hl
    rw [← hl] at hp
    exact absurd hp (Nat.lt_irrefl _)
section
variable {X : Cx} {CX : CXT} {k : Nat} {f C : Addr} {fd : FuncData} {ps ks : List Str} {sp : Sp} {E : XK} {x m : Str} {p pos apos kpos : Pos} {kws : List Keyword} {tk : TA} {g : List Value → List Value → List Value} {gV : List V → List V → List V}
/-- f(k = v, ..) -/
theorem pe_callK0 (F : FnOk X.prog X.w X.K X.mg X.base CX k f fd ps sp) (hr : Room k X.A) (hg : Gl X x) (hm : X.mg x = some (.ref f)) (hk : PySem.W.keepIn X.K (.ref f) = true) (hb : KBinds X.K fd ps ks g gV) (hx : Passes CX X E)
    (hkw : PK X kws tk) (hall : (backToKw pos (keywordEach kws X.env)).all (·.1.isSome) = true := by rfl) (hks : (backToKw pos (keywordEach kws X.env)).filterMap (·.1) = ks := by rfl)
    (hdb : (x == ("__debug__" : Str)) = false := by decide)
    (hpl : ((backTo pos (starEach [] X.env)).any (·.1) || (backToKw pos (keywordEach kws X.env)).any (·.1.isNone)) = false := by rfl) :
    PE X (.Call (.Name x p) [] kws pos) (tCallK sp gV E tNil tk) := by
  refine ⟨fun pins s σ H Q I h => ?_⟩
  refine wpAny_Call_Name_kw (ld_glob I hg hm ?_ hdb)
  refine PySem.W.callWith_KW0 (h₀ := X.base) I.ok.mod.kin hk hall ?_ hpl
  refine thn (hkw.run pos pins s σ H _ I h) fun ws s2 ⟨zs, H2, I2, rz, q2⟩ => ⟨I2.kIn, ?_⟩
  rw [hks]
  exact run_fnk (us := []) (vs := []) F hr hb hx I2 .nil rz q2
end
/-! ### powers of great ints -/
/-- a power of together at most 2 ^ 27 bits -/
def CPowW (i j : Int) : Prop := 0 ≤ j ∧ ((i.natAbs.log2 : Int) + 1) * j ≤ 2 ^ 27
theorem bits_le (x : Int) : (Builtin.Int.intBits x : Int) ≤ (x.natAbs.log2 : Int) + 1 := by
  unfold Builtin.Int.intBits
  split <;> omega
theorem op_powW {X : Cx} : OpR X (binaryOp .Pow) (rI CPowW fun i j => .int (i ^ j.toNat)) := opI fun i j _ _ _ _ _ hc q =>
  pow_int hc.1 (Int.le_trans (Int.mul_le_mul_of_nonneg_right (bits_le i) hc.1) hc.2) q
theorem powW_of {i : Int} {j : Nat} {a : Nat} (h : i.natAbs < 2 ^ a) (h0 : 0 < a) (hj : a * j ≤ 2 ^ 27) : CPowW i (j : Int) := by
  have := PySem.Flt.log2_lt_of h0 h
  refine ⟨Int.natCast_nonneg _, ?_⟩
  have e : ((i.natAbs.log2 : Int) + 1) * (j : Int) = (((i.natAbs.log2 + 1) * j : Nat) : Int) := by
    rw [Int.natCast_mul]
    rfl
  rw [e]
  have : (i.natAbs.log2 + 1) * j ≤ a * j := Nat.mul_le_mul_right _ this
  have : (i.natAbs.log2 + 1) * j ≤ 2 ^ 27 := Nat.le_trans this hj
  omega
/-! ### heaps -/
abbrev Ex := Evl.Ex
/-- all but the object at j is as it was -/
def Exj (j : Addr) (H H' : Hp) : Prop := ∀ b o, b ≠ j → H b = some o → H' b = some o
theorem Exj.refl (j : Addr) (H : Hp) : Exj j H H := fun _ _ _ h => h
theorem Exj.trans {j : Addr} {H H1 H2 : Hp} (a : Exj j H H1) (b : Exj j H1 H2) : Exj j H H2 := fun x o n h => b x o n (a x o n h)
theorem Exj.of {j : Addr} {H H' : Hp} (a : Ex H H') : Exj j H H' := fun x o _ h => a x o h
theorem Exj.upd {j : Addr} {H H' : Hp} {o : HO} (a : Exj j H H') : Exj j H (upd H' j o) := fun x u n h => by
  rw [upd_ne n]
  exact a x u n h
theorem Exj.new {j p : Addr} {H H' : Hp} {o : HO} (a : Exj j H H') (h : H' p = none) : Exj j H (L2.upd H' p o) := fun x u n e => by
  have := a x u n e
  rw [upd_ne (ne_of_none this h)]
  exact this
theorem Exj.sq {K : PySem.W.Frag} {j : Addr} {H H' : Hp} {a : Addr} {xs : List V} (e : Exj j H H') (n : a ≠ j) (h : SqL K H a xs) : SqL K H' a xs := by
  rcases h with (h | ⟨o, h⟩) | h
  · exact .inl (.inl (e _ _ n h))
  · exact .inl (.inr ⟨o, e _ _ n h⟩)
  · exact .inr h
/-- a new object, its heap by name -/
theorem newO {H : Hp} {o : HO} {P : V → Hp → Prop} (k : ∀ p H', H p = none → Ex H H' → H' p = some o → P (.ref p) H') : ∀ p, H p = none → P (.ref p) (L2.upd H p o) := fun p hp => k p _ hp (Evl.Ex.new hp) upd_same
theorem sqI {K : PySem.W.Frag} {H : Hp} {a : Addr} {xs : List V} (h : H a = some (.lst xs)) : SqL K H a xs := .inl (.inl h)
theorem sqT {K : PySem.W.Frag} {H : Hp} {a : Addr} {xs : List V} (h : H a = some (.tup xs)) : SqT K H a xs := .inl (.inl h)
/-! ### data: how a thing of Lean stands in the heap -/
/-- a way of writing things as data: it can be laid, it is no deeper than n, equal data are equal things -/
structure Good {α : Type} [DecidableEq α] (e : α → PyData) (n : Nat) : Prop where
  lay : ∀ x, (e x).canLay0 = true
  dep : ∀ x, (e x).depth ≤ n
  eqv : ∀ x y, PyData.eqv (e x) (e y) = decide (x = y)
def eL {α : Type} (e : α → PyData) (xs : List α) : PyData := .list (xs.map e)
def eT {α : Type} (e : α → PyData) (xs : List α) : PyData := .tuple (xs.map e)
def eP {α β : Type} (e : α → PyData) (f : β → PyData) (p : α × β) : PyData := .tuple [e p.1, f p.2]
theorem goodI : Good PyData.int 0 := ⟨fun _ => rfl, fun _ => Nat.le_refl _, fun x y => by
  show (x == y) = _
  rw [Bool.eq_iff_iff]
  simp⟩
theorem goodB : Good PyData.bool 0 := ⟨fun _ => rfl, fun _ => Nat.le_refl _, fun x y => by
  show (x == y) = _
  rw [Bool.eq_iff_iff]
  simp⟩
section
variable {α β : Type} [DecidableEq α] [DecidableEq β] {e : α → PyData} {f : β → PyData} {n m : Nat}
theorem Good.layAll (g : Good e n) : ∀ xs : List α, PyData.canLayAll0 (xs.map e) = true
  | [] => rfl
  | x :: xs => by
    show (PyData.canLay0 (e x) && PyData.canLayAll0 (xs.map e)) = true
    rw [g.layAll xs, g.lay x]
    rfl
theorem Good.depAll (g : Good e n) : ∀ xs : List α, PyData.depthAll (xs.map e) ≤ n
  | [] => Nat.zero_le _
  | x :: xs => by
    show max (PyData.depth (e x)) (PyData.depthAll (xs.map e)) ≤ n
    exact Nat.max_le.mpr ⟨g.dep x, g.depAll xs⟩
theorem Good.eqvAll (g : Good e n) : ∀ xs ys : List α, PyData.eqvAll (xs.map e) (ys.map e) = decide (xs = ys)
  | [], [] => rfl
  | [], _ :: _ => rfl
  | _ :: _, [] => rfl
  | x :: xs, y :: ys => by
    show (PyData.eqv (e x) (e y) && PyData.eqvAll (xs.map e) (ys.map e)) = _
    rw [g.eqvAll xs ys, g.eqv, Bool.eq_iff_iff]
    simp
theorem goodL (g : Good e n) : Good (eL e) (n + 1) := ⟨fun xs => g.layAll xs, fun xs => by
  show PyData.depthAll (xs.map e) + 1 ≤ n + 1
  have := g.depAll xs
  omega, fun xs ys => g.eqvAll xs ys⟩
theorem goodT (g : Good e n) : Good (eT e) (n + 1) := ⟨fun xs => g.layAll xs, fun xs => by
  show PyData.depthAll (xs.map e) + 1 ≤ n + 1
  have := g.depAll xs
  omega, fun xs ys => g.eqvAll xs ys⟩
theorem goodP (g : Good e n) (k : Good f n) : Good (eP e f) (n + 1) := ⟨fun p => by
    show (PyData.canLay0 (e p.1) && (PyData.canLay0 (f p.2) && true)) = true
    rw [g.lay, k.lay]
    rfl, fun p => by
    show max (PyData.depth (e p.1)) (max (PyData.depth (f p.2)) 0) + 1 ≤ n + 1
    have h1 := g.dep p.1
    have h2 := k.dep p.2
    have : max (PyData.depth (e p.1)) (max (PyData.depth (f p.2)) 0) ≤ n := Nat.max_le.mpr ⟨h1, Nat.max_le.mpr ⟨h2, Nat.zero_le _⟩⟩
    omega, fun p q => by
    show (PyData.eqv (e p.1) (e q.1) && (PyData.eqv (f p.2) (f q.2) && true)) = _
    rw [g.eqv, k.eqv, Bool.eq_iff_iff]
    obtain ⟨a, b⟩ := p
    obtain ⟨c, d⟩ := q
    simp⟩
theorem Good.shaped (g : Good e n) (h : n ≤ 64) (x : α) : SeqAt.shaped (e x) = true := by
  unfold SeqAt.shaped
  rw [g.lay x, decide_eq_true (Nat.le_trans (g.dep x) h)]
  rfl
/-- two things compared -/
theorem eqE {K : PySem.W.Frag} {H : Hp} {v u : V} {x y : α} {Q : VK} (g : Good e n) (hn : n ≤ 64) (h1 : Dp K H v (e x)) (h2 : Dp K H u (e y)) (q : Q (.bl (decide (x = y))) H) : rEqD K v u H Q :=
  ⟨_, _, h1, h2, g.shaped hn x, g.shaped hn y, by rw [g.eqv]; exact q⟩
theorem neE {K : PySem.W.Frag} {H : Hp} {v u : V} {x y : α} {Q : VK} (g : Good e n) (hn : n ≤ 64) (h1 : Dp K H v (e x)) (h2 : Dp K H u (e y)) (q : Q (.bl (!decide (x = y))) H) : rNeD K v u H Q :=
  ⟨_, _, h1, h2, g.shaped hn x, g.shaped hn y, by rw [g.eqv]; exact q⟩
end
theorem dpI {K : PySem.W.Frag} {H : Hp} : ∀ (ns : List Int), DpAll K H (ns.map V.int) (ns.map PyData.int)
  | [] => .nil
  | n :: ns => .cons (.int n) (dpI ns)
/-- a list of ints -/
theorem dpL {K : PySem.W.Frag} {H : Hp} {a : Addr} {ns : List Int} (h : SqL K H a (ns.map V.int)) : Dp K H (.ref a) (eL PyData.int ns) := .lst h (dpI ns)
theorem dpT {K : PySem.W.Frag} {H : Hp} {a : Addr} {ns : List Int} (h : SqT K H a (ns.map V.int)) : Dp K H (.ref a) (eT PyData.int ns) := .tup h (dpI ns)
/-- lists of ints compared -/
theorem eqI_ {K : PySem.W.Frag} {H : Hp} {a b : Addr} {xs ys : List Int} {Q : VK} (h1 : SqL K H a (xs.map V.int)) (h2 : SqL K H b (ys.map V.int)) (q : Q (.bl (decide (xs = ys))) H) : rEqD K (.ref a) (.ref b) H Q := eqE (goodL goodI) (by decide) (dpL h1) (dpL h2) q
theorem neI_ {K : PySem.W.Frag} {H : Hp} {a b : Addr} {xs ys : List Int} {Q : VK} (h1 : SqL K H a (xs.map V.int)) (h2 : SqL K H b (ys.map V.int)) (q : Q (.bl (!decide (xs = ys))) H) : rNeD K (.ref a) (.ref b) H Q := neE (goodL goodI) (by decide) (dpL h1) (dpL h2) q
/-! ### new objects, the heap behind them by a letter -/
section
variable {X : Cx} {es : List Expr} {t : TA} {pos : Pos}
theorem pe_weak {e : Expr} {t t' : TE} (h : PE X e t) (w : ∀ σ H Q, t' σ H Q → t σ H Q) : PE X e t' := ⟨fun pins s σ H Q I q => h.run pins s σ H Q I (w σ H Q q)⟩
def tCutA (t : TA) : TA := fun σ H Q => ∃ M : List V → Hp → Prop, t σ H M ∧ ∀ vs H', M vs H' → Q vs H'
theorem pa_cut (h : PA X es t) : PA X es (tCutA t) := ⟨fun pos pins s σ H Q I ⟨M, hm, hq⟩ => thn (h.run pos pins s σ H M I hm) fun us s1 ⟨xs, H1, I1, r, q⟩ => ⟨xs, H1, I1, r, hq xs H1 q⟩⟩
/-- a new thing o, at any free place of any heap that keeps H -/
def New (o : HO) (H : Hp) (Q : VK) : Prop := ∀ p H', H p = none → Ex H H' → H' p = some o → Q (.ref p) H'
theorem New.go {o : HO} {H : Hp} {Q : VK} (k : New o H Q) (p : Addr) (hp : H p = none) : Q (.ref p) (upd H p o) := k p _ hp (Evl.Ex.new hp) upd_same
def tLstG (t : TA) : TE := fun σ H Q => t σ H fun xs H1 => xs.length ≤ sizeLine ∧ New (.lst xs) H1 Q
def tTupG (t : TA) : TE := fun σ H Q => t σ H fun xs H1 => xs.length ≤ sizeLine ∧ New (.tup xs) H1 Q
theorem pe_lstG (h : PA X es t) : PE X (.List es pos) (tLstG t) := pe_weak (pe_lst (pa_cut h)) fun σ H Q q => ⟨_, q, fun _ _ z => ⟨z.1, fun p hp => z.2.go p hp⟩⟩
theorem pe_tupG {x1} (h : PA X es t) : PE X (.Tuple es x1 pos) (tTupG t) := pe_weak (pe_tup (pa_cut h)) fun σ H Q q => ⟨_, q, fun _ _ z => ⟨z.1, fun p hp => z.2.go p hp⟩⟩
def rCatG : R2 := fun x y H Q => ∃ l b xs zs, x = .ref l ∧ y = .ref b ∧ H l = some (.lst xs) ∧ H b = some (.lst zs) ∧ xs.length + zs.length ≤ sizeLine ∧ New (.lst (xs ++ zs)) H Q
theorem op_catG : OpR X (binaryOp .Add) rCatG := fun pins s σ H x y v u Q I rx ry ⟨l, b, xs, zs, h1, h2, h3, h4, h5, k⟩ => op_cat pins s σ H x y v u Q I rx ry ⟨l, b, xs, zs, h1, h2, h3, h4, h5, fun p hp => k.go p hp⟩
def rRepG : R2 := fun x y H Q => ∃ l k xs, x = .ref l ∧ y = .int k ∧ H l = some (.lst xs) ∧ -(2 ^ 63) ≤ k ∧ k < 2 ^ 63 ∧ xs.length * k.toNat ≤ sizeLine ∧ New (.lst (List.replicate k.toNat xs).flatten) H Q
theorem op_repG : OpR X (binaryOp .Mult) rRepG := fun pins s σ H x y v u Q I rx ry ⟨l, k, xs, h1, h2, h3, h4, h5, h6, z⟩ => op_rep pins s σ H x y v u Q I rx ry ⟨l, k, xs, h1, h2, h3, h4, h5, h6, fun p hp => z.go p hp⟩
def rSlG (K : PySem.W.Frag) : V → Option Int → Option Int → Hp → VK → Prop := fun x lo hi H Q => ∃ a xs, x = .ref a ∧ SqL K H a xs ∧ New (.lst (cutV xs lo hi)) H Q
theorem sl_listG : SlR X (rSlG X.K) := fun pins s σ H x v vl vu lo hi sl Q I rx hs pl pu ⟨a, xs, h1, h2, k⟩ => sl_list pins s σ H x v vl vu lo hi sl Q I rx hs pl pu ⟨a, xs, h1, h2, fun p hp => k.go p hp⟩
def rListG (K : PySem.W.Frag) : List V → Hp → VK → Prop := fun xs H Q => ∃ p ys, xs = [.ref p] ∧ (SqL K H p ys ∨ SqT K H p ys) ∧ New (.lst ys) H Q
theorem call_listG : CallR X (.type "list") (rListG X.K) := fun pins s σ H xs us Q I r ⟨p, ys, h1, h2, k⟩ => call_list_of pins s σ H xs us Q I r ⟨p, ys, h1, h2, fun p hp => k.go p hp⟩
def rTupleG (K : PySem.W.Frag) : List V → Hp → VK → Prop := fun xs H Q => ∃ p ys, xs = [.ref p] ∧ SqL K H p ys ∧ New (.tup ys) H Q
theorem call_tupleG : CallR X (.type "tuple") (rTupleG X.K) := fun pins s σ H xs us Q I r ⟨p, ys, h1, h2, k⟩ => call_tuple_of pins s σ H xs us Q I r ⟨p, ys, h1, .inl ⟨h2, fun p hp => k.go p hp⟩⟩
def rSortedG (K : PySem.W.Frag) : List V → Hp → VK → Prop := fun vs H Q => ∃ (a : Addr) (ns : List Int), vs = [V.ref a] ∧ SqL K H a (ns.map V.int) ∧ ∀ ns' : List Int, ns'.Perm ns → ns'.Pairwise (· ≤ ·) → New (.lst (ns'.map V.int)) H Q
theorem cr_sortedG : CallR X (.builtin "sorted") (rSortedG X.K) := fun pins s σ H xs us Q I r ⟨a, ns, h1, h2, k⟩ => cr_sortedI pins s σ H xs us Q I r ⟨a, ns, h1, h2, fun ns' p h3 h4 hp => (k ns' h3 h4).go p hp⟩
end
/-! ### slices -/
theorem cut_to (xs : List V) (n : Nat) : cutV xs none (some (n : Int)) = xs.take n := by
  unfold cutV
  rw [HT.sIx_none, HT.sIx_nat, List.drop_zero, Nat.sub_zero]
  by_cases h : n ≤ xs.length
  · rw [Nat.min_eq_left h]
  · rw [Nat.min_eq_right (by omega), List.take_of_length_le (Nat.le_refl _), List.take_of_length_le (by omega)]
theorem cut_from (xs : List V) (n : Nat) : cutV xs (some (n : Int)) none = xs.drop n := by
  unfold cutV
  rw [HT.sIx_none, HT.sIx_nat]
  by_cases h : n ≤ xs.length
  · rw [Nat.min_eq_left h, List.take_of_length_le (by rw [List.length_drop]; exact Nat.le_refl _)]
  · rw [Nat.min_eq_right (by omega), List.drop_eq_nil_of_le (Nat.le_refl _), List.drop_eq_nil_of_le (by omega)]
    exact List.take_nil
/-! ### ways that come together -/
section
variable {X : Cx}
def tCutE (te : TE) : TE := fun σ H Q => ∃ M : V → Hp → Prop, te σ H M ∧ ∀ v H', M v H' → Q v H'
def tCutT (tt : TT) : TT := fun σ H Q => ∃ M : Bool → Hp → Prop, tt σ H M ∧ ∀ b H', M b H' → Q b H'
def tCutS (t : TS) : TS := fun D σ H => ∃ M : L2.St → Hp → Prop, t { D with nx := M } σ H ∧ ∀ σ' H', M σ' H' → D.nx σ' H'
theorem pe_cut {e : Expr} {te : TE} (h : PE X e te) : PE X e (tCutE te) := ⟨fun pins s σ H Q I ⟨M, hm, hq⟩ => thn (h.run pins s σ H M I hm) fun v s1 ⟨x, H1, I1, r, q⟩ => ⟨x, H1, I1, r, hq x H1 q⟩⟩
theorem pt_cut {e : Expr} {tt : TT} (h : PT X e tt) : PT X e (tCutT tt) := ⟨fun pins s σ H Q I ⟨M, hm, hq⟩ => thn (h.run pins s σ H M I hm) fun b s1 ⟨H1, I1, q⟩ => ⟨H1, I1, hq b H1 q⟩⟩
theorem ps_cut {st : Stmt} {t : TS} (h : PS X st t) : PS X st (tCutS t) := by
  refine ⟨fun pins s σ H D I ⟨M, hm, hq⟩ => thn (h.run pins s σ H { D with nx := M } I hm) fun f s1 q => ?_⟩
  cases f with
  | next =>
    obtain ⟨σ', H', I', q⟩ := q
    exact ⟨σ', H', I', hq σ' H' q⟩
  | ret v => exact q
  | brk => exact q
  | cont => exact q
end
theorem ifF {c : Bool} {A B : Prop} (h : c = false) (k : B) : if c = true then A else B := by
  rw [h]
  exact iteF k
theorem ifT {c : Bool} {A B : Prop} (h : c = true) (k : A) : if c = true then A else B := by
  rw [h]
  exact iteT k
theorem ifB {c : Bool} {A B : Prop} (h1 : c = true → A) (h2 : c = false → B) : if c = true then A else B := by
  cases c with
  | true => exact iteT (h1 rfl)
  | false => exact iteF (h2 rfl)
/-! ### comprehensions without tests, the element without a trace -/
theorem lc_mapL {K : PySem.W.Frag} {a : Addr} {xs ys : List V} {j : Nat} {te : TE} {vs : List Nat} {σ : L2.St} {H1 : Hp} {D : Addr} {Qd : Hp → Prop} (hx : SqL K H1 a xs) (hD : H1 D = none) (hl : ys.length = xs.length) (hz : xs.length ≤ sizeLine)
    (hw : ∀ x, wipe ((wipe σ vs).set j (some x)) vs = wipe σ vs)
    (he : ∀ (i : Nat) x y H', Ex H1 H' → xs[i]? = some x → ys[i]? = some y → ∀ R : VK, (∀ H2, Ex H' H2 → R y H2) → te ((wipe σ vs).set j (some x)) H' R)
    (k : ∀ H', Ex H1 H' → H' D = some (.lst ys) → Qd H') :
    ∃ W : Nat → Nat → Hp → Prop, (∃ m, W 0 m (upd H1 D (.lst []))) ∧ ∀ i m H, W i m H →
      ((Itl K a).stop i H ∧ Qd H) ∨ ((Itl K a).go i H ∧ ∃ Nx : Hp → Prop, (∀ H', Nx H' → ∃ m', m' < m ∧ W (i + 1) m' H') ∧ ∀ x H', (Itl K a).yld i H x H' → gName j x (wipe σ vs) H' fun σ2 H2 => wipe σ2 vs = wipe σ vs ∧ tYes σ2 H2 fun b H3 =>
        if b = true then te σ2 H3 fun y H4 => ∃ acc, H4 D = some (.lst acc) ∧ acc.length < sizeLine ∧ Nx (upd H4 D (.lst (acc ++ [y]))) else Nx H3) := by
  refine lc_list (xs := xs) (fun i H' => Ex H1 H' ∧ H' D = some (.lst (ys.take i))) ⟨Evl.Ex.new hD, upd_same⟩ (fun i H' _ p => Evl.ex_l p.1 hx) (fun i x H' hi p => ?_) (fun H' p => k H' p.1 ?_)
  · have hi' : i < xs.length := (List.getElem?_eq_some_iff.mp hi).1
    have hy : ys[i]? = some (ys[i]'(by omega)) := List.getElem?_eq_getElem (by omega)
    refine ⟨hw x, ?_⟩
    show te ((wipe σ vs).set j (some x)) H' _
    refine he i x _ H' p.1 hi hy _ fun H2 e2 => ⟨ys.take i, e2 _ _ p.2, ?_, ?_⟩
    · rw [List.length_take]
      omega
    · refine ⟨Evl.Ex.mut (p.1.trans e2) hD, ?_⟩
      rw [upd_same, List.take_add_one, hy]
      rfl
  · have := p.2
    rw [List.take_of_length_le (by omega)] at this
    exact this
end My
set_option Elab.async false
set_option linter.all false
set_option maxRecDepth 100000
set_option maxHeartbeats 4000000
/-! Own errors whose __init__ says super().__init__("..") and keeps one field. -/
namespace My
open PySem PySem.Spec PyProof.Rows L2 NdefX
/-! ### the built-in __init__ bound to a new error, called -/
section
variable {prog : Program} {w : World} {A : Around} {E : Value → Shared → Prop} {h : Heap} {g : Array GenState} {d : Drawn} {t : Nat} {os : OsState}
variable {nm q : Str} {C N : Addr} {bs bm : List Value} {hdct : Bool} {sn : List Str} {sub : List Value} {ab : Bool} {col : Option Bool} {dd : Option Addr} {k0 k1 k2 k3 k5 : Option Value}
theorem call_mwV {u e t0 : Addr} {rest : List Value} {Q : Value → Shared → Prop}
    (hC : h.get? C = some (excClassObj nm q C N bs bm hdct sn sub ab col dd k0 k1 k2 k3 k5 "ValueError.__new__")) (he : h.get? e = some (HandSPX.excO C t0)) (hu : h.get? u = some (PySem.W.kxs_mw "ValueError.__init__" e)) (hrest : rest.length ≤ sizeLine)
    (hq : ∀ h' t1, (∀ b o, b ≠ e → h.get? b = some o → h'.get? b = some o) → h'.get? e = some (HandSPX.excO C t1) → Q .none ⟨h', g, d, t, os⟩) :
    wpAny (model prog w) A (call (.ref u) rest) Q E ⟨h, g, d, t, os⟩ := by
  refine wpAny_call (codeAny_of_tree ?_)
  show wpAny _ A.in1 (callAny (.ref u) ⟨rest, []⟩) _ _ _
  simp only [callAny]
  refine wpAny_bind (wpAny_load hu ?_)
  simp only [PySem.W.kxs_mw, show (Value.type "method-wrapper" == Value.type "method" || Value.type "method-wrapper" == Value.type "builtin_function_or_method" || Value.type "method-wrapper" == Value.type "method-wrapper") = true by decide, if_true]
  refine W.KFB.if_so (by decide) ?_
  refine wpAny_bind (ESX.check_bound F.excBase_ValueError hC he rfl ?_)
  refine wpAny_bind (wpAny_pure (wpAny_pure ?_))
  refine ⟨Code.quiet_builtin _ (by decide +kernel), codeAny_builtin F.excBase_ValueError.initEntry ?_⟩
  rw [Around.under_plainId F.excBase_ValueError.init.plain _]
  wp_walk
  refine hq _ h.objs.size (fun b o hb ho => ?_) ?_
  · rw [Heap.get?_update_other _ _ (Ne.symm hb)]
    exact Heap.get?_push_of_some _ ho
  · rw [Heap.get?_update_self _ (Heap.get?_push_of_some _ he) rfl]
    rfl
end
/-- what the written part says of the __init__ and of the class D that holds it -/
structure InitT (P : Program) (K : PySem.W.Frag) (mg : Str → Option Value) (st : Stmt) (qu : Str) (fI cc cda D : Addr) (fd : FuncData) : Prop where
  ex : ∃ (oc : Value) (od : Option Addr) (kV doc pm : Value) (an : Option Addr) (ct : Value) (osl : Array (Option Value)),
    fd = PySem.W.fnX "__init__" qu (defArgs st) (defBody st) (defScope st) [("__class__", cc)] .none kV doc pm an (.ref cda) ct ∧ K.lookup fI = some ⟨oc, od, .func fd, osl⟩
  code : PySem.W.codeIn K (.ref cda) qu = true
  cell : ∃ cl cld csl, K.lookup cc = some ⟨cl, cld, .cell (some (.ref D)), csl⟩
  file : ∃ (ccl : Value) (cdd : Option Addr) (ccs : Array (Option Value)) (vs : Array Value) (fl : Str) (tf : Tok), K.lookup cda = some ⟨ccl, cdd, .fields vs, ccs⟩ ∧ vs[2]? = some (.str fl tf) ∧ ((P.main.file : Str) == fl) = true
  cls : ∃ cdD, PySem.W.clsIn K D = some cdD
  sup : mg "super" = none
  top : (P.main.scope.names.lookup ("super" : Str)).isSome = false
  opq : PySem.W.nsIn K cStatics "thirdparty.any" = some none
/-- what it says of a class C of errors that has this __init__ -/
structure ErrC (K : PySem.W.Frag) (fI D C : Addr) : Prop where
  oex : OexC K C
  init : PySem.W.findIn K (.ref C) "__init__" = some (some (.ref fI))
  tI : PySem.W.typeIn K (.ref fI) = some (.type "function")
  nov : PySem.W.findIn K (.ref C) "value" = some none
  mro : PySem.W.mroIn K C (.ref D) = some true
  sin : PySem.W.ks_superIn K C D "__init__" = some (some (.builtin "ValueError.__init__"))
  sub : PySem.W.subIn K (.ref C) (.type "ValueError") = some true
  xf : XfC K C
/-- the first statement, super().__init__("..") -/
abbrev sSuper (p0 p1 p2 p3 p4 p5 : Pos) (x : Str) (j : Nat) : Stmt := .Expr (.Call (.Attribute (.Call (.Name "super" p0) [] [] p1) "__init__" p2) [.Constant (.str x) j p3] [] p4) p5
abbrev sKeep (p0 p1 p2 p3 : Pos) : Stmt := .Assign [.Attribute (.Name "self" p0) "value" p1] (.Name "value" p2) p3
/-- the promise: the new error at a has, behind it, its dict with the value -/
def spErr (K : PySem.W.Frag) (fI D : Addr) : Sp := fun vs H Q _ => ∃ (a C : Addr) (v : V), vs = [.ref a, v] ∧ ErrC K fI D C ∧ H a = some (exo a C none) ∧
  ∀ dx, H dx = none → dx ≠ a → Q .non (upd (upd H dx (exd dx [("value", v)])) a (exo a C (some dx)))
section
variable {P : Program} {w : World} {K : PySem.W.Frag} {mg : Str → Option Value} {base : Heap} {st : Stmt} {qu : Str} {fI cc cda D : Addr} {fd : FuncData}
theorem super_step {A : Around} {outer : List Env} {s0 : Shared} {H0 : Hp} {E0' : XK} {F : NF} {body : List Stmt} {p0 p1 p2 p3 p4 p5 : Pos} {x : Str} {j : Nat} {a C : Addr} {v : V} {H : Hp} {s : Shared} {ws : List (Option V)} {Q : Flow → Shared → Prop} {N : List Str}
    (T : InitT P K mg st qu fI cc cda D fd) (hF : F = ⟨"__init__", qu, defArgs st, defBody st, defScope st, [("__class__", cc)], cda⟩) (TC : ErrC K fI D C)
    (hks : (defScope st).names.lookup ("super" : Str) = some .globalImplicit) (hkc : (defScope st).names.lookup ("__class__" : Str) = some .free) (hka : (defScope st).names.lookup ("self" : Str) = some .local) (hk : (defScope st).kind = .function)
    (hp : ((defArgs st).posonlyargs ++ (defArgs st).args).head?.map (·.arg) = some ("self" : Str)) (hN : N[0]? = some ("self" : Str))
    {pl : Sem Bool} (hev : ∀ env : Env, eval (.Call (.Attribute (.Call (.Name "super" p0) [] [] p1) "__init__" p2) [.Constant (.str x) j p3] [] p4) env = (do
      let ov ← attributeBase (.Call (.Name "super" p0) [] [] p1) "__init__" env (eval (.Call (.Name "super" p0) [] [] p1) env)
      standAt p2.atName
      let (f, first) ← holding [ov] (getMethod ov "__init__" pl)
      callWith p4 f first (backTo p4 (starEach [.Constant (.str x) j p3] env)) []))
    (I : Inv (ncx CX0 P w K mg base N F fI A outer s0 H0 E0') [] (some (.ref a) :: some v :: ws) H s) (ha : H a = some (exo a C none))
    (h : ∀ s', Inv (ncx CX0 P w K mg base N F fI A outer s0 H0 E0') [] (some (.ref a) :: some v :: ws) H s' → Q .next s') :
    _root_.PySem.wpAt (model P w) (ncx CX0 P w K mg base N F fI A outer s0 H0 E0').A (.func body (ncx CX0 P w K mg base N F fI A outer s0 H0 E0').env) (exec (sSuper p0 p1 p2 p3 p4 p5 x j) (ncx CX0 P w K mg base N F fI A outer s0 H0 E0').env) Q (ncx CX0 P w K mg base N F fI A outer s0 H0 E0').xe s := by
  subst hF
  obtain ⟨oc, od, kV, doc, pm, an, ct, osl, efd, lk⟩ := T.ex
  obtain ⟨cl, cld, csl, hcell⟩ := T.cell
  obtain ⟨ccl, cdd, ccs, vs, fl, tf, hcode, hvs, hfile⟩ := T.file
  obtain ⟨cdD, hD⟩ := T.cls
  obtain ⟨nm, q, N', bs, bm, sn, sub, ab, col, dd, k0, k1, k2, k3, k5, hC, hbm⟩ := TC.oex.cls
  have hcl : PySem.W.clsIn K C = some { name := nm, bases := bs, mro := .ref C :: bm, ns := N', qualname := q, hasDict := true, slotNames := sn, subclasses := sub, abstract := ab, collection := col, hasDel := false } := by unfold PySem.W.clsIn; rw [hC] <;> rfl
  have KX : K.In s.heap := I.kIn
  obtain ⟨ar, har, harg⟩ : ∃ ar, ((defArgs st).posonlyargs ++ (defArgs st).args).head? = some ar ∧ ar.arg = ("self" : Str) := by
    cases e : ((defArgs st).posonlyargs ++ (defArgs st).args).head? with
    | none => rw [e] at hp; cases hp
    | some ar => rw [e] at hp; exact ⟨ar, rfl, Option.some.inj hp⟩
  obtain ⟨oD, hD1, hD2⟩ : ∃ oD, s.heap.get? D = some oD ∧ oD.data = .cls cdD := by
    unfold PySem.W.clsIn at hD
    split at hD
    · rename_i c d cd' sl ho
      cases hD
      exact ⟨_, KX _ _ ho, rfl⟩
    · cases hD
  obtain ⟨t1, hoe⟩ := exo_at I.hok ha
  -- the name self
  obtain ⟨m, hns, hl⟩ := id I.loc
  obtain ⟨u0, ru, lu⟩ := hl 0 "self" (.ref a) hN rfl (.inl hka)
  obtain rfl : u0 = Value.ref a := ru
  have hself : m "self" = some (.ref a) := by
    rcases lu with ⟨_, q⟩ | ⟨q, _⟩
    · exact q
    · have e : (defScope st).names.lookup ("self" : Str) = some .cell ∨ (defScope st).names.lookup ("self" : Str) = some .free := q
      rw [hka] at e
      rcases e with z | z <;> cases z
  obtain ⟨mb, hb1, hb2⟩ := I.mod.blt
  refine ks_wpAt_Expr_any (ks_wpAt_MethodCall ?_ (hev _)) (I.quiet) rfl
  refine ks_wpAt_super_base hks hkc (by decide) rfl (KX _ _ lk) (by rw [efd]) (ar := ar) har rfl (KX _ _ hcode) rfl hvs hfile T.top ?_
  refine PySem.W.ks_loadName_global hk hks (Calls.loadGlobal_builtin (I.mod.glob.keeps I.bk) T.sup (hb1.keeps I.bk) ((hb2 _ (by decide)).trans (by decide +kernel)) ⟨rfl, ?_⟩)
  refine wpAny_loadName_free hk hkc rfl ⟨_, KX _ _ hcell, rfl⟩ ?_
  rw [harg]
  refine wpAny_loadName_local hk hka hns hself ?_
  refine ks_wpAny_isType_cls hD1 hD2 ⟨rfl, ?_⟩
  obtain ⟨hp0, g, d, t, os⟩ := s
  refine ks_wpAny_call_super hD1 hD2 hoe rfl (fun c e => by cases e) (PySem.W.looks_mroIn KX TC.mro) (fun h1 e1 k1' => ?_)
  have I1 : Inv (ncx CX0 P w K mg base N ⟨"__init__", qu, defArgs st, defBody st, defScope st, [("__class__", cc)], cda⟩ fI A outer s0 H0 E0') [] (some (.ref a) :: some v :: ws) H ⟨h1, g, d, t, os⟩ := I.kept (h' := h1) (t' := t) k1'
  have KX1 : K.In h1 := I1.kIn
  have hoe1 := k1' _ _ hoe
  have hnaC : a ≠ C := by
    rintro rfl
    have z := KX _ _ hC
    rw [hoe] at z
    cases z
  have hI1 : PySem.W.Looks (model P w) h1 (isInstance (.ref a) (.type "ValueError")) true := (show PySem.W.InstAt h1 a _ C none from ⟨hoe1, rfl, rfl, trivial⟩).type.andThen (PySem.W.looks_subIn KX1 TC.sub)
  have hsin := TC.sin
  unfold PySem.W.ks_superIn at hsin
  rw [hcl, Option.bind_some] at hsin
  refine PySem.W.kxs_getMethod PySem.W.kxs_ValueError e1 (PySem.W.looks_opaque KX1 T.opq) (l₀ := .ref C :: bm) ?_ rfl KX1 hsin hI1 hnaC (by decide) ?_
  · exact fun A Q E s k q => wpAny_bind ((PySem.W.looks_clsIn KX1 hcl) A _ E s k (wpAny_pure q))
  have I2 : Inv (ncx CX0 P w K mg base N ⟨"__init__", qu, defArgs st, defBody st, defScope st, [("__class__", cc)], cda⟩ fI A outer s0 H0 E0') [] (some (.ref a) :: some v :: ws) H ⟨h1.push (PySem.W.kxs_mw "ValueError.__init__" a), g, d, t + 1, os⟩ := I1.kept (t' := t + 1) fun b o e => Heap.get?_push_of_some _ e
  have hu2 : (h1.push (PySem.W.kxs_mw "ValueError.__init__" a)).get? h1.objs.size = some (PySem.W.kxs_mw "ValueError.__init__" a) := Heap.get?_push_at rfl rfl
  have hoe2 : (h1.push (PySem.W.kxs_mw "ValueError.__init__" a)).get? a = _ := Heap.get?_push_of_some _ hoe1
  show wpAny _ _ (callWith p4 (.ref h1.objs.size) [] (backTo p4 (starEach [.Constant (.str x) j p3] _)) []) _ _ _
  refine PySem.W.kxs_callWith (i := "ValueError.__init__") (x := a) rfl (PySem.Calls.evalArgs_plain ?_)
  refine args_cons (Calls.Constant_str (args_nil ⟨hu2, ?_⟩)) rfl
  have I3 := I2.tok (t + 1 + 1)
  refine call_mwV (KX1.keeps (fun b o e => Heap.get?_push_of_some _ e) _ _ hC) hoe2 hu2 (by show 1 ≤ sizeLine; decide) (fun h' t' k he => ?_)
  have J := I3.write (t' := t + 1 + 1) (x := a) (e := a) (o := exo a C none) (by rw [ha]; exact True.intro) (.inl rfl) k ⟨_, he⟩ (exo_ok he)
  have eu : upd H a (exo a C none) = H := by
    funext b
    by_cases hb : b = a
    · rw [hb, upd_same, ha]
    · rw [upd_ne hb]
  rw [eu] at J
  exact h _ J
theorem ok_err {p0 p1 p2 p3 p4 p5 q0 q1 q2 q3 : Pos} {x : Str} {j : Nat} {pl : Sem Bool} (T : InitT P K mg st qu fI cc cda D fd) (S : NScope ["self", "value", "__class__"] ["self", "value"] ["__class__"] (defScope st))
    (hbd : defBody st = [sSuper p0 p1 p2 p3 p4 p5 x j, sKeep q0 q1 q2 q3]) (hks : (defScope st).names.lookup ("super" : Str) = some .globalImplicit)
    (hp : ((defArgs st).posonlyargs ++ (defArgs st).args).head?.map (·.arg) = some ("self" : Str))
    (hev : ∀ env : Env, eval (.Call (.Attribute (.Call (.Name "super" p0) [] [] p1) "__init__" p2) [.Constant (.str x) j p3] [] p4) env = (do
      let ov ← attributeBase (.Call (.Name "super" p0) [] [] p1) "__init__" env (eval (.Call (.Name "super" p0) [] [] p1) env)
      standAt p2.atName
      let (f, first) ← holding [ov] (getMethod ov "__init__" pl)
      callWith p4 f first (backTo p4 (starEach [.Constant (.str x) j p3] env)) [])) : FnOk P w K mg base CX0 1 fI fd ["self", "value"] (spErr K fI D) := by
  refine ⟨fun vs H Q E h => by obtain ⟨a, C, v, rfl, _⟩ := h; rfl, fun A outer s H args us vs Q E hr e0 hb r hsp => ?_⟩
  have KX : K.In s.heap := e0.mod.kin.keeps fun b o e => (e0.bs b o e).1
  have lim : s.heap.NoLimit := e0.mod.nolimit.keeps fun b o e => (e0.bs b o e).1
  obtain ⟨oc, od, kV, doc, pm, an, ct, osl, efd, lk⟩ := id T.ex
  obtain ⟨cl, cld, csl, hcell⟩ := T.cell
  obtain ⟨a, C, v, ev, TC, ha, k⟩ := hsp
  subst ev
  have hl : [V.ref a, v].length = (["self", "value"] : List Str).length := rfl
  have hC : CellsAt [(("__class__" : Str), cc)] ["__class__"] [some (.ref D)] s.heap H := by
    have hb := e0.mod.kin _ _ hcell
    have hs := e0.bs _ _ hb
    have key : ∀ {y : Str} {c : Addr}, ([(("__class__" : Str), cc)] : List (Str × Addr)).lookup y = some c → c = cc ∧ y = "__class__" := fun {y c} e => by
      have z := PySem.mem_of_lookup e
      have z' : (y, c) = (("__class__" : Str), cc) := by simpa using z
      exact ⟨congrArg Prod.snd z', congrArg Prod.fst z'⟩
    refine ⟨rfl, fun y c e => ?_, fun y z c e1 e2 => (key e1).2.trans (key e2).2.symm, fun i y e => ?_⟩
    · obtain ⟨rfl, rfl⟩ := key e
      exact ⟨hs.2, _, _, hs.1, rfl⟩
    · cases i with
      | zero =>
        have e' : ("__class__" : Str) = y := Option.some.inj e
        subst e'
        refine ⟨cc, by simp [List.lookup], fun u hu => ?_⟩
        have hu' : some (some (V.ref D)) = some (some u) := hu
        cases hu'
        exact ⟨.ref D, rfl, _, hs.1, rfl⟩
      | succ i => simp at e
  have hfd : (K.lookup fI) = some ⟨oc, od, .func (PySem.W.fnX "__init__" qu (defArgs st) (defBody st) (defScope st) [("__class__", cc)] .none kV doc pm an (.ref cda) ct), osl⟩ := by rw [← efd]; exact lk
  refine codeAny_call_function hr.depth (KX _ _ hfd) rfl S.co S.gen rfl (PySem.W.codeRec_of KX T.code) ?_
  have hb' := hb
  rw [efd] at hb'
  refine hb' _ _ _ _ ?_
  refine wpAny_newFunctionEnv S.nocell (fun ⟨n, _⟩ hy => S.par n (List.of_mem_zip hy).1) (fun h₁ hns hsb => ⟨lim.fresh _ hsb, ?_⟩) S.kind
  have kp : ∀ b o, s.heap.get? b = some o → h₁.get? b = some o := fun b o e => hsb.extBut b o (Nat.ne_of_lt (Heap.lt_size e)) (Heap.get?_push_of_some _ e)
  have I : Inv (ncx CX0 P w K mg base ["self", "value", "__class__"] ⟨"__init__", qu, defArgs st, defBody st, defScope st, [("__class__", cc)], cda⟩ fI A outer s H E) [] (startF ["self", "value", "__class__"] [V.ref a, v] [some (.ref D)]) H { s with heap := h₁, toks := s.toks + ((["self", "value"] : List Str).zip us).length } :=
    inv_startN (F := ⟨"__init__", qu, defArgs st, defBody st, defScope st, [("__class__", cc)], cda⟩) S hr.hd e0 hl r hC hns kp
  refine ks_codeAny_funcAt (env := (ncx CX0 P w K mg base ["self", "value", "__class__"] ⟨"__init__", qu, defArgs st, defBody st, defScope st, [("__class__", cc)], cda⟩ fI A outer s H E).env) (body := defBody st) ?_
  rw [show execs (defBody st) = execs [sSuper p0 p1 p2 p3 p4 p5 x j, sKeep q0 q1 q2 q3] from congrArg execs hbd]
  refine ks_wpAt_execs_cons (super_step T rfl TC hks (S.frk _ (by simp)) (S.par _ (by simp)) S.kind hp rfl hev I ha fun s' I' => ?_)
  have hpst : PSs (ncx CX0 P w K mg base ["self", "value", "__class__"] ⟨"__init__", qu, defArgs st, defBody st, defScope st, [("__class__", cc)], cda⟩ fI A outer s H E) [sKeep q0 q1 q2 q3] _ :=
    pss_one (ps_ost (pe_var (i := 0) rfl (.inl (S.par _ (by simp)))) (pe_var (i := 1) rfl (.inl (S.par _ (by simp)))))
  have run := hpst.run [] s' _ H { nx := fun _ H' => Q .non H', rt := Q } I' ⟨_, rfl, _, rfl, a, C, rfl, TC.oex, TC.nov, .inl ⟨ha, k⟩⟩
  refine wpAt_of_wpAny (wpAny_mono run (fun fl s2 hs => ?_) fun e s2 hs => hs)
  have fin : ∀ {σ' : L2.St} {H' : Hp} {v : V} {u : Value}, Inv (ncx CX0 P w K mg base ["self", "value", "__class__"] ⟨"__init__", qu, defArgs st, defBody st, defScope st, [("__class__", cc)], cda⟩ fI A outer s H E) [] σ' H' s2 → L2.RelV v u → Q v H' → CE outer P w H s Q u s2 :=
    fun {σ' H' v u} J rv q => ⟨v, H', J.os, J.bare, J.base, J.hok, rv, q⟩
  cases fl with
  | ret u =>
    obtain ⟨v, σ', H', J, rv, q⟩ := hs
    exact fin J rv q
  | next =>
    obtain ⟨σ', H', J, q⟩ := hs
    exact fin (v := V.non) (u := Value.none) J rfl q
  | brk =>
    obtain ⟨_, _, _, q⟩ := hs
    exact False.elim q
  | cont =>
    obtain ⟨_, _, _, q⟩ := hs
    exact False.elim q
end
/-! ### raise X(e) -/
/-- an error of the class at C with the value v is what is wanted -/
def Raised (C : Addr) (v : V) (H : Hp) (E : XK) : Prop := ∀ d H', H d = none → Ex H H' → H' d = some (.xd [("value", v)]) → E (.ref C) (some d) H'
def tErr (C : Addr) (ta : TA) : L2.St → Hp → XK → Prop := fun σ H Q => ta σ H fun vs H1 => ∃ v, vs = [v] ∧ Raised C v H1 Q
section
variable {X : Cx} {K : PySem.W.Frag} {fI D C : Addr} {fd : FuncData} {x : Str} {p pos : Pos} {e : Expr} {ta : TA}
theorem pmk_err (F : FnOk X.prog X.w X.K X.mg X.base CX0 1 fI fd ["self", "value"] (spErr X.K fI D)) (hb : Binds X.K fd ["self", "value"] []) (TC : ErrC X.K fI D C) (hr : Room 2 X.A) (hg : Gl X x) (hm : X.mg x = some (.ref C)) (ha : PA X [e] ta)
    (hdb : (x == ("__debug__" : Str)) = false := by decide) (he : starEach [e] X.env = (false, eval e X.env) :: starEach [] X.env := by rfl) (hpl : (backTo pos (starEach [] X.env)).any (·.1) = false := by rfl) :
    PMk X (.Call (.Name x p) [e] [] pos) (tErr C ta) := fun pins s σ H Q I h => by
  refine pmk_oex (sp := spErr X.K fI D) (dvs := []) TC.oex TC.init TC.tI F hr hb .nil pass0 hg hm (pa_cut ha) hdb he hpl pins s σ H Q I ⟨_, h, fun vs H1 z => ?_⟩
  obtain ⟨v, rfl, k⟩ := z
  refine ⟨by show 1 ≤ 1000; decide, fun a hn => ⟨a, C, v, rfl, TC, upd_same, fun dx hdx ne => ⟨rfl, dx, [("value", v)], upd_same, by rw [upd_ne ne, upd_same], ?_, ?_⟩⟩⟩
  · rw [upd_ne ne] at hdx
    exact hdx
  · rw [upd_ne ne] at hdx
    refine k dx _ hdx (fun b o hb => ?_) upd_same
    have n1 := ne_of_none hb hdx
    have n2 := ne_of_none hb hn
    rw [upd_ne n1, del_ne n2, upd_ne n2, upd_ne n1, upd_ne n2]
    exact hb
end
/-- calls of a def that may raise, in one that may -/
theorem passX {P : Program} {w : World} {K : PySem.W.Frag} {mg : Str → Option Value} {base : Heap} {N : List Str} {qual : Str} {scope : Scope} {f : Addr} {cd : Value} {A : Around} {outer : List Env} {s : Shared} {H : Hp} {E : XK} :
    Passes (L2.CX P w) (cxOf (L2.CX P w) P w K mg base N qual scope f cd A outer s H E) E := passes_call (X := cxOf (L2.CX P w) P w K mg base N qual scope f cd A outer s H E) (takes_of rfl rfl rfl rfl) (fun _ _ _ _ h => h)
/-! ### what the head's facts give -/
theorem along_ve (K : PySem.W.Frag) : PySem.W.alongIn K "__init__" PySem.HandSPX.veTail = some (some (.builtin "ValueError.__init__")) := by kernel_rfl
section
variable {K : PySem.W.Frag} {nm q : Str} {C D N : Addr} {bs : List Value} {sn : List Str} {sub : List Value} {ab : Bool} {col : Option Bool} {dd : Option Addr} {k0 k1 k2 k3 k5 : Option Value}
theorem sup_self (h : K.lookup C = some (excClassObj nm q C N bs PySem.HandSPX.veTail true sn sub ab col dd k0 k1 k2 k3 k5 "ValueError.__new__")) (e : C = D) : PySem.W.ks_superIn K C D "__init__" = some (some (.builtin "ValueError.__init__")) := by
  subst e
  unfold PySem.W.ks_superIn PySem.W.clsIn
  rw [h]
  show PySem.W.alongIn K "__init__" (((Value.ref C :: PySem.HandSPX.veTail).dropWhile (· != .ref C)).drop 1) = _
  rw [ESX.drop_own]
  exact along_ve K
theorem sup_child (h : K.lookup C = some (excClassObj nm q C N bs (.ref D :: PySem.HandSPX.veTail) true sn sub ab col dd k0 k1 k2 k3 k5 "ValueError.__new__")) (e : (C == D) = false) : PySem.W.ks_superIn K C D "__init__" = some (some (.builtin "ValueError.__init__")) := by
  unfold PySem.W.ks_superIn PySem.W.clsIn
  rw [h]
  show PySem.W.alongIn K "__init__" (((Value.ref C :: Value.ref D :: PySem.HandSPX.veTail).dropWhile (· != .ref D)).drop 1) = _
  have ne : ((Value.ref C : Value) != .ref D) = true := by
    have : C ≠ D := by simpa using e
    simp [this]
  rw [List.dropWhile_cons, if_pos ne, ESX.drop_own]
  exact along_ve K
theorem exm_gen {S S' : Addr} {b : Bool} (h1 : PySem.W.subIn K (.ref S') (.type "BaseException") = some true) (h2 : PySem.W.isClsIn K S' = true) (h3 : PySem.W.typeIn K (.ref S') = some (.type "type")) (h4 : PySem.W.subIn K (.ref S) (.ref S') = some b) :
    PySem.W.exmOne K (.ref S) (.ref S') = some b := by
  have e1 : (PySem.W.subIn K (.ref S') (.type "BaseException") == some true) = true := by rw [h1] <;> rfl
  have e2 : ((PySem.W.clsIn K S').isSome && PySem.W.typeIn K (.ref S') == some (.type "type")) = true := by
    have h2' : (PySem.W.clsIn K S').isSome = true := h2
    rw [h2', h3] <;> rfl
  show (if (PySem.W.subIn K (.ref S') (.type "BaseException") == some true) = true then (if ((PySem.W.clsIn K S').isSome && PySem.W.typeIn K (.ref S') == some (.type "type")) = true then PySem.W.subIn K (.ref S) (.ref S') else none) else none) = some b
  rw [if_pos e1, if_pos e2]
  exact h4
end
end My
set_option Elab.async false
set_option linter.all false
set_option maxRecDepth 100000
set_option maxHeartbeats 4000000
/-! Further rules: sum of a tuple, len of a range, calls by keywords of a def that may raise. -/
namespace My
open PySem PySem.Spec PyProof.Rows L2
section
variable {prog : Program} {w : World} {A : Around} {E : Value → Shared → Prop} {s : Shared} {l : Addr} {its : List Value} {ns : List Int} {Q : Value → Shared → Prop}
theorem sum_tupRaw (hh : A.handled = none) (hl : s.heap.IsTuple l its.toArray) (hi : IntsAre its ns)
    (h : ∀ h' tk t', (∀ b o, s.heap.get? b = some o → h'.get? b = some o) → Q (.int ns.sum t') { s with heap := h', toks := tk }) : wpAny (model prog w) A (call (.builtin "sum") [.ref l]) Q E s := by
  obtain ⟨xs, e⟩ := hi.allInts.items
  have hn : numsOf (intItems xs).toList = ns := by rw [← e]; exact hi.numsOf
  rw [nums_intItems] at hn
  rw [e] at hl
  have hlt : l < s.heap.objs.size := by obtain ⟨_, e, _⟩ := hl; exact Heap.lt_size e
  refine call_sum_walkG (wpAny_pyIter_tuple hl ?_)
  refine ⟨_, _, _, _, _, _, numAt xs, rfl, Walks.tuple (A := A.in1) hh _ l (Nat.ne_of_lt hlt) (intItems xs), ⟨⟨_, Heap.get?_push_size _ rfl, rfl, rfl⟩, ?_⟩, (fun b hb => ?_), (fun _ _ => intItems_at), fun h' tk t' hk => ?_⟩
  · obtain ⟨o, e1, e2⟩ := hl
    exact ⟨o, Heap.get?_push_of_some _ e1, e2⟩
  · show b < (s.heap.push _).objs.size
    rw [Heap.size_push]
    rcases List.mem_cons.mp hb with rfl | hb
    · exact Nat.lt_succ_self _
    · rcases List.mem_cons.mp hb with rfl | hb
      · exact Nat.lt_succ_of_lt hlt
      · cases hb
  · have := h h' tk t' (fun b o e => hk b o (fun hm => by
      have z : b = s.heap.objs.size := by simpa using hm
      exact Nat.ne_of_lt (Heap.lt_size e) z) (Heap.get?_push_of_some _ e))
    have e2 : preSum (numAt xs) (intItems xs).size = ns.sum := by
      rw [preSum_eq, List.take_of_length_le (by simp [intItems]), hn]
    rw [e2]
    exact this
end
section
variable {X : Cx}
def rSumT (K : PySem.W.Frag) : List V → Hp → VK → Prop := fun vs H Q => ∃ (a : Addr) (ns : List Int), vs = [V.ref a] ∧ SqT K H a (ns.map V.int) ∧ Q (.int ns.sum) H
theorem cr_sumT (hc : X.calm = true) : CallR X (.builtin "sum") (rSumT X.K) := by
  intro pins s σ H vs us Q I r h
  obtain ⟨a, ns, rfl, hs, q⟩ := h
  obtain ⟨its, rv, hl, _⟩ := I.tuple hs
  rw [Vals.ref1 r]
  exact sum_tupRaw (I.ok.hd hc) hl rv.ints fun h' tk t' hk => ⟨.int _, H, I.kept hk, ⟨_, rfl⟩, q⟩
/-- len(range(a, b)) -/
def rLenR : List V → Hp → VK → Prop := fun vs H Q => ∃ (p : Addr) (lo hi : Int), vs = [V.ref p] ∧ H p = some (.rng lo hi) ∧ hi - lo < 2 ^ 62 ∧ Q (.int (if lo < hi then hi - lo else 0)) H
theorem call_lenR : CallR X (.builtin "len") rLenR := by
  intro pins s σ H vs us Q I r h
  obtain ⟨p, lo, hi, rfl, hp, hz, q⟩ := h
  rw [Vals.ref1 r]
  obtain ⟨t, u, v, ho⟩ := (show ObjOk X.prog X.w H s.heap p (.rng lo hi) from I.hok p _ hp)
  have e : ((if lo < hi then hi - lo else 0 : Int)) = (((if lo < hi then hi - lo else 0 : Int)).toNat : Int) := by split <;> omega
  refine call_len_range (n := ((if lo < hi then hi - lo else 0 : Int)).toNat) (a := lo) (b := hi) (c := 1) ho ?_ ?_ ?_
  · rw [rangeSize_one, ← e]
  · rw [← e]
    split <;> omega
  · rw [← e]
    exact ⟨.int _, H, I.tok _, ⟨_, rfl⟩, q⟩
def rRangeG : List V → Hp → VK → Prop := fun vs H Q => ∃ i j, vs = [V.int i, V.int j] ∧ New (.rng i j) H Q
theorem cr_rangeG : CallR X (.type "range") rRangeG := fun pins s σ H xs us Q I r ⟨i, j, h1, k⟩ => cr_range2 pins s σ H xs us Q I r ⟨i, j, h1, fun p hp => k.go p hp⟩
end
section
variable {X : Cx} {CX : CXT} {k : Nat} {f C : Addr} {fd : FuncData} {ps ks : List Str} {sp : Sp} {E : L2.St → XK} {x m : Str} {p pos apos kpos : Pos} {kws : List Keyword} {tk : TA} {g : List Value → List Value → List Value} {gV : List V → List V → List V}
theorem run_fnkS {pins : List (Addr × Obj)} {σ : L2.St} {H : Hp} {s : Shared} {Q : VK} {us ws : List Value} {vs zs : List V} (F : FnOk X.prog X.w X.K X.mg X.base CX k f fd ps sp) (hr : Room k X.A) (hb : KBinds X.K fd ps ks g gV) (hx : PassesAt CX X σ (E σ))
    (I : Inv X pins σ H s) (r : Vals vs us) (rz : Vals zs ws) (h : sp (gV vs zs) H Q (E σ)) : wpAny (model X.prog X.w) X.A (call (.ref f) us (ks.zip ws)) (EP X pins σ Q) X.xe s := by
  have r2 := hb.rel r rz
  have hl : (g us ws).length = ps.length := by rw [← r2.length]; exact F.len _ _ _ _ h
  refine wpAny_call (codeAny_mono (F.run X.A X.stack s H ⟨us, ks.zip ws⟩ (g us ws) (gV vs zs) Q (E σ) hr I.env0 (hb.to s us ws I.kIn hl) r2 h) fun r s' hq => ?_)
  cases r with
  | error e => exact hx pins H s e s' I hq
  | ok fl =>
    cases fl with
    | ret u => exact I.after hq
    | next => exact False.elim hq
    | brk => exact False.elim hq
    | cont => exact False.elim hq
def tCallKS (sp : Sp) (gV : List V → List V → List V) (E : L2.St → XK) (t tk : TA) : TE := fun σ H Q => t σ H fun vs H1 => tk σ H1 fun zs H2 => sp (gV vs zs) H2 Q (E σ)
/-- f(k = v, ..) in a try -/
theorem pe_callK0S (F : FnOk X.prog X.w X.K X.mg X.base CX k f fd ps sp) (hr : Room k X.A) (hg : Gl X x) (hm : X.mg x = some (.ref f)) (hk : PySem.W.keepIn X.K (.ref f) = true) (hb : KBinds X.K fd ps ks g gV) (hx : ∀ σ, PassesAt CX X σ (E σ))
    (hkw : PK X kws tk) (hall : (backToKw pos (keywordEach kws X.env)).all (·.1.isSome) = true := by rfl) (hks : (backToKw pos (keywordEach kws X.env)).filterMap (·.1) = ks := by rfl)
    (hdb : (x == ("__debug__" : Str)) = false := by decide)
    (hpl : ((backTo pos (starEach [] X.env)).any (·.1) || (backToKw pos (keywordEach kws X.env)).any (·.1.isNone)) = false := by rfl) :
    PE X (.Call (.Name x p) [] kws pos) (tCallKS sp gV E tNil tk) := by
  refine ⟨fun pins s σ H Q I h => ?_⟩
  refine wpAny_Call_Name_kw (ld_glob I hg hm ?_ hdb)
  refine PySem.W.callWith_KW0 (h₀ := X.base) I.ok.mod.kin hk hall ?_ hpl
  refine thn (hkw.run pos pins s σ H _ I h) fun ws s2 ⟨zs, H2, I2, rz, q2⟩ => ⟨I2.kIn, ?_⟩
  rw [hks]
  exact run_fnkS (us := []) (vs := []) F hr hb (hx σ) I2 .nil rz q2
variable {e : Expr} {es : List Expr} {t : TA}
/-- f(e, .., k = v, ..) in a try -/
theorem pe_callKS (F : FnOk X.prog X.w X.K X.mg X.base CX k f fd ps sp) (hr : Room k X.A) (hg : Gl X x) (hm : X.mg x = some (.ref f)) (hk : PySem.W.keepIn X.K (.ref f) = true) (hb : KBinds X.K fd ps ks g gV) (hx : ∀ σ, PassesAt CX X σ (E σ))
    (ha : PA X (e :: es) t) (hkw : PK X kws tk) (hall : (backToKw pos (keywordEach kws X.env)).all (·.1.isSome) = true := by rfl) (hks : (backToKw pos (keywordEach kws X.env)).filterMap (·.1) = ks := by rfl)
    (hdb : (x == ("__debug__" : Str)) = false := by decide) (he : starEach (e :: es) X.env = (false, eval e X.env) :: starEach es X.env := by rfl)
    (hpl : ((backTo pos (starEach (e :: es) X.env)).any (·.1) || (backToKw pos (keywordEach kws X.env)).any (·.1.isNone)) = false := by rfl) :
    PE X (.Call (.Name x p) (e :: es) kws pos) (tCallKS sp gV E t tk) := by
  refine ⟨fun pins s σ H Q I h => ?_⟩
  refine wpAny_Call_Name_kw (ld_glob I hg hm ?_ hdb)
  refine PySem.W.callWith_KW (h₀ := X.base) I.ok.mod.kin hk hall (thn (ha.run pos pins s σ H _ I h) fun us s1 ⟨vs, H1, I1, r, q⟩ => ?_) hpl he
  refine thn (hkw.run pos pins s1 σ H1 _ I1 q) fun ws s2 ⟨zs, H2, I2, rz, q2⟩ => ⟨I2.kIn, ?_⟩
  rw [hks]
  exact run_fnkS F hr hb (hx σ) I2 r rz q2
end
/-! rules within a comprehension: what may be kept by name is that of the def -/
section
variable {X : Cx} {K : PySem.W.Frag}
theorem crK {f : Value} {r : PySem.W.Frag → List V → Hp → VK → Prop} (h : X.K = K) (c : CallR X f (r X.K)) : CallR X f (r K) := h ▸ c
theorem ixK {r : PySem.W.Frag → R2} (h : X.K = K) (c : IxR X (r X.K)) : IxR X (r K) := h ▸ c
theorem opK {f : Value → Value → Sem Value} {r : PySem.W.Frag → R2} (h : X.K = K) (c : OpR X f (r X.K)) : OpR X f (r K) := h ▸ c
def rLenSq (K : PySem.W.Frag) : List V → Hp → VK → Prop := fun xs H Q => ∃ p ys, xs = [.ref p] ∧ (SqL K H p ys ∨ SqT K H p ys) ∧ Q (.int ys.length) H
end
end My
set_option Elab.async false
set_option linter.all false
set_option maxRecDepth 100000
set_option maxHeartbeats 4000000
/-! Defs under which repr may be asked: no repr is under way. -/
namespace My
open PySem PySem.Spec PyProof.Rows L2
structure FnOkG (P : Program) (w : World) (K : PySem.W.Frag) (mg : Str → Option Value) (base : Heap) (CX : CXT) (k : Nat) (f : Addr) (fd : FuncData) (ps : List Str) (sp : Sp) : Prop where
  len : ∀ vs H Q E, sp vs H Q E → vs.length = ps.length
  run : ∀ (A : Around) (outer : List Env) (s : Shared) (H : Hp) (args : Args) (us : List Value) (vs : List V) (Q : VK) (E : XK), Room k A → A.guards = some [] → Env0 P w K mg base A outer s H → BindsTo s fd args (ps.zip us) → Vals vs us → sp vs H Q E →
    codeAny (model P w) A (.call (.ref f) args) (CR CX outer P w H s Q E) s
theorem fn_ofG {CX : CXT} {P : Program} {w : World} {K : PySem.W.Frag} {mg : Str → Option Value} {base : Heap} {k : Nat} {f : Addr} {name qual : Str} {params : Arguments} {body : List Stmt} {scope : Scope} {dV kV doc pm cdv ct oc : Value} {an od : Option Addr}
    {osl : Array (Option Value)} {N ps : List Str} {sp : Sp} (lk : K.lookup f = some ⟨oc, od, .func (PySem.W.fnOf name qual params body scope dV kV doc pm an cdv ct), osl⟩) (hcd : PySem.W.codeIn K cdv qual = true) (S : FnScope N ps scope)
    (len : ∀ vs H Q E, sp vs H Q E → vs.length = ps.length)
    (hbody : ∀ (A : Around) (outer : List Env) (s : Shared) (H : Hp) (vs : List V) (Q : VK) (E : XK), Room k (A.deeper (envOfC qual scope s.heap.objs.size f cdv)) → A.guards = some [] → sp vs H Q E →
      ∃ t, PSs (cxOf CX P w K mg base N qual scope f cdv A outer s H E) body t ∧ t { nx := fun _ H' => Q .non H', rt := Q } (start N vs) H) :
    FnOkG P w K mg base CX (k + 1) f (PySem.W.fnOf name qual params body scope dV kV doc pm an cdv ct) ps sp := by
  refine ⟨len, fun A outer s H args us vs Q E hr hg e0 hb r hsp => ?_⟩
  have hl := len _ _ _ _ hsp
  have KX : K.In s.heap := e0.mod.kin.keeps fun b o e => (e0.bs b o e).1
  have lim : s.heap.NoLimit := e0.mod.nolimit.keeps fun b o e => (e0.bs b o e).1
  refine codeAny_call_function hr.depth (KX _ _ lk) rfl S.co S.gen rfl (PySem.W.codeRec_of KX hcd) (hb _ _ _ _ ?_)
  refine wpAny_newFunctionEnv_cells S.kind (fun ⟨n, v⟩ hy => ?_) fun env he s1 x => ?_
  · rcases S.par n (List.of_mem_zip hy).1 with q | q
    · exact .inl q
    · exact .inr ⟨q, PySem.W.cellsFrom_some _ _ _ (.inl q)⟩
  subst he
  refine ⟨lim.keeps x.toInCall.keep, codeAny_func ?_⟩
  obtain ⟨t, ht, hq⟩ := hbody A outer s H vs Q E (hr.deeper _) hg hsp
  have I : Inv (cxOf CX P w K mg base N qual scope f cdv A outer s H E) [] (start N vs) H s1 := inv_start S hr.hd e0 hl r x
  refine wpAny_mono (ht.run [] s1 (start N vs) H _ I hq) (fun fl s' hs => ?_) fun e s' hs => hs
  cases fl with
  | ret u =>
    obtain ⟨v, σ', H', J, rv, q⟩ := hs
    exact ⟨v, H', J.os, J.bare, J.base, J.hok, rv, q⟩
  | next =>
    obtain ⟨σ', H', J, q⟩ := hs
    exact ⟨.non, H', J.os, J.bare, J.base, J.hok, rfl, q⟩
  | brk =>
    obtain ⟨_, _, _, q⟩ := hs
    exact False.elim q
  | cont =>
    obtain ⟨_, _, _, q⟩ := hs
    exact False.elim q
section
variable {P : Program} {w : World} {K : PySem.W.Frag} {mg : Str → Option Value} {base : Heap}
theorem _root_.L2.Fun.okG {x qual : Str} {st : Stmt} {f : Addr} {fd : FuncData} {N ps : List Str} {k : Nat} {sp : Sp} (F : Fun K x qual st f fd) (S : FnScope N ps (defScope st)) (len : ∀ vs H Q E, sp vs H Q E → vs.length = ps.length)
    (hbody : ∀ (cdv : Value) (A : Around) (outer : List Env) (s : Shared) (H : Hp) (vs : List V) (Q : VK) (E : XK), Room k (A.deeper (envOfC qual (defScope st) s.heap.objs.size f cdv)) → A.guards = some [] → sp vs H Q E →
      ∃ t, PSs (cxOf CX0 P w K mg base N qual (defScope st) f cdv A outer s H E).nox (defBody st) t ∧ t { nx := fun _ H' => Q .non H', rt := Q } (start N vs) H) : FnOkG P w K mg base CX0 (k + 1) f fd ps sp := by
  obtain ⟨oc, od, kV, doc, pm, an, cdv, ct, osl, rfl, lk, hcd⟩ := F.ex
  refine fn_ofG lk hcd S len fun A outer s H vs Q E hr hg hsp => ?_
  obtain ⟨t, h, q⟩ := hbody cdv A outer s H vs Q E hr hg hsp
  exact ⟨t, h.nox, q⟩
end
section
variable {X : Cx} {CX : CXT} {k : Nat} {f : Addr} {fd : FuncData} {ps : List Str} {sp : Sp} {dvs : List V} {ds : List Value} {E : XK} {x : Str} {p pos : Pos} {e : Expr} {es : List Expr} {t : TA}
theorem pe_callG (F : FnOkG X.prog X.w X.K X.mg X.base CX k f fd ps sp) (hr : Room k X.A) (gd : X.A.guards = some []) (hg : Gl X x) (hm : X.mg x = some (.ref f)) (hk : PySem.W.keepIn X.K (.ref f) = true) (hb : Binds X.K fd ps ds) (hd : Vals dvs ds) (hx : Passes CX X E)
    (ha : PA X (e :: es) t) (hdb : (x == ("__debug__" : Str)) = false := by decide) (he : starEach (e :: es) X.env = (false, eval e X.env) :: starEach es X.env := by rfl) (hpl : (backTo pos (starEach es X.env)).any (·.1) = false := by rfl) :
    PE X (.Call (.Name x p) (e :: es) [] pos) (tCall sp dvs E t) := by
  refine ⟨fun pins s σ H Q I h => ?_⟩
  refine wpAny_Call_Name_kw (ld_glob I hg hm ?_ hdb)
  refine PySem.W.callWith_K (h₀ := X.base) I.ok.mod.kin hk (thn (ha.run pos pins s σ H _ I h) fun us s1 ⟨vs, H1, I1, r, q⟩ => ⟨I1.kIn, ?_⟩) he hpl
  have r2 : Vals (vs ++ dvs) (us ++ ds) := r.append hd
  have hl : (us ++ ds).length = ps.length := by rw [← r2.length]; exact F.len _ _ _ _ q
  refine wpAny_call (codeAny_mono (F.run X.A X.stack s1 H1 ⟨us, []⟩ (us ++ ds) (vs ++ dvs) Q E hr gd I1.env0 (hb s1 us I1.kIn hl) r2 q) fun r s' hq => ?_)
  cases r with
  | error e => exact hx pins σ H1 s1 e s' I1 hq
  | ok fl =>
    cases fl with
    | ret u => exact I1.after hq
    | next => exact False.elim hq
    | brk => exact False.elim hq
    | cont => exact False.elim hq
/-- repr of data without dicts -/
def rRepr (K : PySem.W.Frag) : List V → Hp → VK → Prop := fun vs H Q => ∃ (v : V) (d : PyData), vs = [v] ∧ Dp K H v d ∧ d.showable = true ∧ d.hasDict = false ∧ d.depth ≤ 60 ∧ d.shown.length ≤ sizeLine ∧ (∃ a, v = .ref a) ∧ Q (.str d.shown) H
theorem cr_repr (gd : X.A.guards = some []) (hu : X.A.units + 64 < cLine) : CallR X (.builtin "repr") (rRepr X.K) := by
  intro pins s σ H vs us Q I r h
  obtain ⟨v, d, rfl, hd, h1, h2, h3, h4, ⟨a, rfl⟩, q⟩ := h
  rw [Vals.ref1 r]
  obtain ⟨as, rd⟩ := Dp.reads I d (.ref a) (.ref a) hd rfl
  exact repr_of_reads' rd h1 (fun z => by rw [h2] at z; cases z) gd (by omega) (fun b o e => e) (fun h' u tk hk => ⟨.str d.shown, H, I.kept hk, ⟨_, rfl⟩, q⟩) h4
end
/-! ### the head: nothing of repr is under way where the law is called -/
theorem law_callG {P : Program} {w : World} {K : PySem.W.Frag} {mg mb : Str → Option Value} {CX : CXT} {k : Nat} {fa a : Addr} {fd : FuncData} {x : Str} {sp : Sp} {s₁ : Shared} {vs : List Value} {ns : List Int}
    (KX : K.In s₁.heap) (hns : s₁.heap.Ns mainGlobals mg) (hb : s₁.heap.Ns builtinsNs mb) (hbb : ∀ x : Str, x ≠ "__name__" → mb x = bootBuiltins x) (hlim : s₁.heap.NoLimit) (hg : s₁.gens = #[])
    (ha : s₁.heap.get? a = some { cls := .type "list", data := .seq vs.toArray }) (hi : IntsAre vs ns) (hl : ns.length ≤ sizeLine) (hr : Room k callerA)
    (F : ∀ base : Heap, K.In base → base.Ns mainGlobals mg → FnOkG P w K mg base CX k fa fd [x] sp) (hbind : ∀ (s : Shared) (u : Value), BindsTo s fd ⟨[u], []⟩ [(x, u)])
    (hsp : ∀ H : Hp, Only H → SqL K H a (ns.map V.int) → sp [.ref a] H (fun v _ => v = .bl true) fun _ _ _ => False)
    (hCX : ∀ H e s', CX [] H s₁ (fun _ _ _ => False) e s' → False) :
    codeAny (model P w) callerA (.call (.ref fa) ⟨[.ref a], []⟩) (fun r s' => r = .ok (.ret (.bool true)) ∧ OldK s₁.heap s'.heap ∧ s'.os = s₁.os ∧ AllBare s'.gens) s₁ := by
  have rv := vals_ints hi
  have lenV := hi.length
  have core : ∀ H : Hp, Only H → SqL K H a (ns.map V.int) → HOk P w H s₁.heap → (∀ b, H b ≠ none → b = a) → (H a ≠ none → K.lookup a = none) →
      codeAny (model P w) callerA (.call (.ref fa) ⟨[.ref a], []⟩) (fun r s' => r = .ok (.ret (.bool true)) ∧ OldK s₁.heap s'.heap ∧ s'.os = s₁.os ∧ AllBare s'.gens) s₁ := by
    intro H hO hS hok hA hK
    have free : ∀ {b : Addr} {P : Prop}, (∀ u, H b = some u → b = a → P → False) → P → H b = none := fun {b P} h p => by
      cases q : H b with
      | none => rfl
      | some u => exact (h u q (hA b (by rw [q]; simp)) p).elim
    have noA : ∀ {b : Addr} {o : Obj} {es : Array DictEntry} {ep : Nat}, s₁.heap.get? b = some o → o.data = .dict es ep → H b = none := fun {b o es ep} e d => free (P := True) (fun u q e' _ => by
      subst e'
      rw [ha] at e
      cases e
      cases d) trivial
    have nsK : ∀ {b : Addr} {m : Str → Option Value}, s₁.heap.Ns b m → (hidT s₁.heap H).Ns b m := fun {b m} ⟨o, es, ep, e, d, r⟩ => ⟨o, es, ep, hidT_get e (noA e d), d, r⟩
    have hKb : K.In (hidT s₁.heap H) := fun b o e => hidT_get (KX b o e) (free (P := True) (fun u q e' _ => by
      subst e'
      rw [hK (by rw [q]; simp)] at e
      cases e) trivial)
    have hM : Mod K mg (hidT s₁.heap H) := ⟨hKb, nsK hns, ⟨mb, nsK hb, hbb⟩, let ⟨mc, h1, h2⟩ := hlim; ⟨mc, nsK h1, h2⟩⟩
    have e0 : Env0 P w K mg (hidT s₁.heap H) callerA [] s₁ H := ⟨rfl, hM, fun b o e => of_hidT e, Nat.le_of_eq (hidT_size _ _), trivial, fun b hb => absurd (show b ∈ ([] : List Addr) from hb) (by simp), hok, .of_eq hg⟩
    refine codeAny_mono ((F _ hKb (nsK hns)).run callerA [] s₁ H ⟨[.ref a], []⟩ [.ref a] [.ref a] _ _ hr rfl e0 (hbind s₁ (.ref a)) (.cons rfl .nil) (hsp H hO hS)) fun r s' h => ?_
    cases r with
    | error e => exact (hCX H e s' h).elim
    | ok fl =>
      cases fl with
      | next => exact False.elim h
      | brk => exact False.elim h
      | cont => exact False.elim h
      | ret u =>
        obtain ⟨v, H', os, bare, un, hok', r', q⟩ := h
        have q' : v = .bl true := q
        subst q'
        obtain rfl : u = Value.bool true := r'
        refine ⟨rfl, OldK.of_keep fun b o e => ?_, os, bare⟩
        rcases hO b with z | ⟨ob, xs, z⟩
        · exact un.keep b o e z (by intro z; exact absurd (show b ∈ ([] : List Addr) from z) (by simp)) (by simp)
        · have z2 := un.frzs b ob _ z
          obtain ⟨e1, _⟩ := hok b _ z
          obtain ⟨e2, _⟩ := hok' b _ z2
          rw [e] at e1
          cases e1
          exact e2
  cases hk : K.lookup a with
  | some o =>
    have e := KX a o hk
    rw [ha] at e
    cases e
    exact core (fun _ => none) (fun _ => .inl rfl) (.inr ⟨_, vs.toArray, _, hk, rfl, rfl, rfl, by rw [List.size_toArray, lenV]; exact hl, by simpa using rv⟩) (fun b u z => nomatch (show (none : Option HO) = some u from z)) (fun b z => absurd rfl z) fun z => absurd rfl z
  | none =>
    refine core (fun b => if b = a then some (.frz { cls := .type "list", data := .seq vs.toArray } (.lst (ns.map V.int))) else none) (fun b => ?_) (.inl (.inr ⟨{ cls := .type "list", data := .seq vs.toArray }, if_pos rfl⟩)) (fun b u z => ?_) (fun b z => ?_) fun _ => hk
    · by_cases hb : b = a
      · exact .inr ⟨_, _, if_pos hb⟩
      · exact .inl (if_neg hb)
    · by_cases hb : b = a
      · have z' := (if_pos hb).symm.trans z
        cases z'
        subst hb
        exact ⟨ha, by rw [List.length_map]; exact hl, vs, _, rv, ha⟩
      · have z' := (if_neg hb).symm.trans z
        cases z'
    · by_cases hb : b = a
      · exact hb
      · exact absurd (if_neg hb) z
theorem walk_ofG {l : PySem.W.OpenLaw} {n k : Nat} {q : Program} {loose : List Str} {XP : (Str → Option Value) → Heap → Prop} {YP : World → Heap → Prop} {d : DefRec} {K : Params → PySem.W.Frag} {CX : World → CXT} {sp : World → Sp} {x : Str}
    (hn : l.most = some n) (hn2 : n ≤ sizeLine) (hdf : d.params.defaults = []) (hr : Room k callerA)
    (hY : ∀ (w : World) (h : Heap), YP w h → (K w.params).In h)
    (F : ∀ (w : World) (mg : Str → Option Value) (fa : Addr) (h : Heap), (K w.params).In h → h.Ns mainGlobals mg → mg d.name = some (.ref fa) →
      ∃ fd : FuncData, (∀ (s : Shared) (u : Value), BindsTo s fd ⟨[u], []⟩ [(x, u)]) ∧
        ∀ base : Heap, (K w.params).In base → base.Ns mainGlobals mg → FnOkG l.prog w (K w.params) mg base (CX w) k fa fd [x] (sp w))
    (hsp : ∀ (w : World) (H : Hp) (a : Addr) (ns : List Int), ns.length ≤ n → Only H → SqL (K w.params) H a (ns.map V.int) → sp w [.ref a] H (fun v _ => v = .bl true) fun _ _ _ => False)
    (hCX : ∀ (w : World) (H : Hp) (s : Shared) (e : Value) (s' : Shared), CX w [] H s (fun _ _ _ => False) e s' → False) :
    PySem.W.WalkO q loose XP YP l.row.toRowW d [] (fun f vs => PySem.call f vs) := by
  refine Att.attach_call hn hdf fun w s₀ s₁ mg mb fa o pm cd doc a vs ns G Y ho hd hcd hmg hobj hints hlen hg => ?_
  have KX := hY w _ Y
  obtain ⟨fd, hb, hF⟩ := F w mg fa _ KX G.T.g hmg
  exact law_callG KX G.T.g G.T.b G.T.builtins G.T.nolimit hg hobj hints (Nat.le_trans hlen hn2) hr hF hb (fun H hO hS => hsp w H a ns hlen hO hS) fun H e s' => hCX w H s₁ e s'
end My
set_option Elab.async false
set_option linter.all false
set_option maxRecDepth 100000
set_option maxHeartbeats 4000000
/-! sorted(d) of a dict whose keys are ints. -/
namespace My
open PySem PySem.Spec PyProof.Rows L2
theorem len_dict : typeLookup (.type "dict") "__len__" = pure (some (.builtin "dict.__len__")) := by rw [typeLookup_type, builtinLookup_eq_fast]; kernel_rfl
section
variable {prog : Program} {w : World} {A : Around} {E : Value → Shared → Prop} {s : Shared} {d : Addr} {od : Obj} {es : Array DictEntry} {ep : Nat}
theorem dict_hint (hT : s.TypeIs (.ref d) "dict") {Q : Bool → Shared → Prop} (h : Q false s) : wpAny (model prog w) A (Builtin.List.listLengthHint (.ref d)) Q E s := by
  unfold Builtin.List.listLengthHint
  refine wpAny_bind (wpAny_specialOf hT len_dict ?_)
  generalize hid : ("dict.__len__" : String) = id0
  wp_delta
  rw [show splitId id0 = some ("dict", "__len__") from by subst hid; decide +kernel]
  subst hid
  refine wpAny_bind (wpAny_isInstance (T := "dict") (b := true) hT (by rw [isSubtype_type]; kernel_rfl) ?_)
  refine wpAny_ite_split (fun hab => absurd hab (by decide)) (fun _ => ?_)
  refine wpAny_ite_split (fun _ => ?_) (fun hab => absurd (by decide +kernel) hab)
  refine wpAny_bind (wpAny_typeOf hT ?_)
  exact wpAny_pure h
/-- the loop that takes the keys -/
theorem loopD {R : Result → Shared → Prop} {S I : Addr} (hh : A.handled = none) (hSI : S ≠ I) (hSd : d ≠ S) (hId : d ≠ I) (hn : es.size ≤ sizeLine) (res : Value) {h₁ : Heap} (hdd : od.data = .dict es ep)
    (hR : ∀ h' c, (∀ b o, b ≠ S → b ≠ I → h₁.get? b = some o → h'.get? b = some o) → h'.get? S = some { cls := .type "list", dict := none, data := .seq (es.map (·.key)) c, slots := #[] } → R (.ok (.ret res)) { s with heap := h' }) :
    ∀ (k i : Nat) (h : Heap) (c : Nat) (acc : Array Value), es.size - i = k → i ≤ es.size → h.IsKeyIter I d i es.size ep → h.get? d = some od → (∀ b o, b ≠ S → b ≠ I → h₁.get? b = some o → h.get? b = some o) →
      h.get? S = some { cls := .type "list", dict := none, data := .seq acc c, slots := #[] } → acc.toList = (es.toList.take i).map (·.key) →
      codeAny (model prog w) A (.builtin "list.extend.loop" ⟨[.ref S, .ref I, res], []⟩) R { s with heap := h } := by
  intro k
  induction k with
  | zero =>
    intro i h c acc hk hi hst hD hkeep hS hacc
    refine codeAny_builtin PySem.F.entry_extend_loop ?_
    rw [Around.under_plainId PySem.F.plain_extend_loop _]
    show wpAny _ A.in1 (pyNext (.ref I) >>= _) _ _ _
    refine wpAny_bind (next_key_end (s := { s with heap := h }) (A := A.in1) hh hst hD hdd rfl (by omega) fun h' he => ?_)
    have ea : acc = es.map (·.key) := by
      apply Array.toList_inj.mp
      rw [hacc, List.take_of_length_le (by rw [Array.length_toList]; omega), Array.toList_map]
    rw [ea] at hS
    exact wpAny_pure (hR h' c (fun b o h1 h2 e => he b o h2 (hkeep b o h1 h2 e)) (he S _ hSI hS))
  | succ k ih =>
    intro i h c acc hk hi hst hD hkeep hS hacc
    have hlt : i < es.size := by omega
    have hsz : acc.size = i := by rw [← Array.length_toList, hacc, List.length_map, List.length_take, Array.length_toList]; omega
    refine codeAny_builtin PySem.F.entry_extend_loop ?_
    rw [Around.under_plainId PySem.F.plain_extend_loop _]
    show wpAny _ A.in1 (pyNext (.ref I) >>= _) _ _ _
    refine wpAny_bind (next_key_item (s := { s with heap := h }) (en := es[i]) hst hD hdd rfl (Array.getElem?_eq_getElem hlt) fun h' hst' hs' => ?_)
    have hS' := hs'.extBut S _ hSI hS
    have up : ∀ b o, b ≠ S → h'.get? b = some o → (h'.update S (Obj.mapSeq (·.push es[i].key))).get? b = some o := fun b o hb e => (Heap.get?_update_other _ _ (Ne.symm hb)).trans e
    show wpAny _ A.in1 (updateSeq S (·.push es[i].key) >>= _) _ _ _
    refine wpAny_bind ?_
    refine wpAny_updateSeq hS' rfl (wpAny_pure ⟨plainId_quiet PySem.F.plain_extend_loop _, ih (i + 1) _ _ (acc.push es[i].key) (by omega) hlt (hst'.at fun o e => up _ o hSI.symm e) (up d _ hSd (hs'.extBut d _ hId hD))
      (fun b o h1 h2 e => up b o h1 (hs'.extBut b _ h2 (hkeep b o h1 h2 e))) (Heap.get?_update_self _ hS' rfl) ?_⟩) (by rw [hsz]; omega) (by show (acc.push es[i].key).size ≤ sizeLine + 1; rw [Array.size_push, hsz]; omega)
    rw [Array.toList_push, hacc, List.take_add_one, Array.getElem?_toList, Array.getElem?_eq_getElem hlt, List.map_append]
    rfl
theorem extD {R : Result → Shared → Prop} {P2 : Program} {κ : Type} [DecidableEq κ] {knd : PySem.KeyKind prog w κ} {kvs : List (κ × Value)} (hh : A.handled = none) (hsys : (d == sysModules) = false) (hm : s.heap.DictAt knd d kvs ep) (ho : s.heap.get? d = some od) (hdd : od.data = .dict es ep) (hk : kvs.length = es.size) (S : Addr) (hSd : d ≠ S) (res : Value) (c₀ : Nat) (hS : s.heap.get? S = some { cls := .type "list", data := .seq #[] c₀ })
    (hR : ∀ h' c, (∀ b o, b ≠ S → s.heap.get? b = some o → h'.get? b = some o) → h'.get? S = some { cls := .type "list", dict := none, data := .seq (es.map (·.key)) c, slots := #[] } → R (.ok (.ret res)) { s with heap := h' }) (hn : es.size ≤ sizeLine) :
    wpAny (model prog w) A.in1 (Builtin.List.listExtendWith (.ref S) (.ref d) res)
      (fun fin s' => match fin with | .done f => R (.ok f) s' | .again c' => c'.quiet = true ∧ codeAny (model prog w) A c' R s') (fun e s' => R (.error e) s') s := by
  have hSI : S < s.heap.objs.size := Heap.lt_size hS
  have hdI : d < s.heap.objs.size := Heap.lt_size ho
  have hT : s.TypeIs (.ref d) "dict" := hm.dictOf.typeIs
  have key : ∀ (h : Heap) (c₁ : Nat), (∀ b o, b ≠ S → (s.heap.push { cls := .type "dict_keyiterator", data := .fields #[.ref d, .int 0 0, .int kvs.length 0, .int ep 0] }).get? b = some o → h.get? b = some o) →
      h.get? S = some { cls := .type "list", data := .seq #[] c₁ } → codeAny (model prog w) A (.builtin "list.extend.loop" ⟨[.ref S, .ref s.heap.objs.size, res], []⟩) R { s with heap := h } := by
    intro h c₁ hk' hS₁
    have hI := hk' s.heap.objs.size _ (Nat.ne_of_gt hSI) (Heap.get?_push_size _ rfl)
    rw [hk] at hI
    exact loopD (s := s) (h₁ := s.heap) hh (Nat.ne_of_lt hSI) hSd (Nat.ne_of_lt hdI) hn res hdd (fun h' c hk2 hS2 => hR h' c (fun b o hb e => hk2 b o hb (Nat.ne_of_lt (Heap.lt_size e)) e) hS2)
      es.size 0 h c₁ #[] (Nat.sub_zero _) (Nat.zero_le _) ⟨_, hI, rfl, rfl⟩ (hk' d _ hSd (Heap.get?_push_of_some _ ho)) (fun b o hb _ e => hk' b o hb (Heap.get?_push_of_some _ e)) hS₁ rfl
  unfold Builtin.List.listExtendWith
  refine wpAny_bind (wpAny_typeOf (T := "dict") hT ?_)
  have h1 : Builtin.List.listSameRef (.ref S) (.ref d) = false := by simp [Builtin.List.listSameRef, Ne.symm hSd]
  have h2 : (Value.type "dict" == Value.type "list") = false := by decide
  have h3 : (Value.type "dict" == Value.type "tuple") = false := by decide
  simp only [h1, h2, h3, Bool.or_false, Bool.false_eq_true, if_false]
  refine wpAny_bind (wpAny_pyIter_dict hsys hm ?_)
  have hS₁ := Heap.get?_push_of_some { cls := .type "dict_keyiterator", data := .fields #[.ref d, .int 0 0, .int kvs.length 0, .int ep 0] } hS
  refine wpAny_bind (wpAny_holding (dict_hint (let ⟨o, ho, hc⟩ := hT; ⟨o, Heap.get?_push_of_some _ ho, hc⟩) ?_))
  refine wpAny_ite_split (fun _ => ?_) (fun _ => wpAny_pure ⟨plainId_quiet PySem.F.plain_extend_loop _, key _ c₀ (fun b o _ e => e) hS₁⟩)
  refine wpAny_bind (wpAny_rule ?_)
  refine wpAny_bind ?_
  show wpAny _ _ (updateSeq S (·.push .none) >>= fun _ => updateSeq S (·.pop)) _ _ _
  refine wpAny_bind (wpAny_updateSeq hS₁ rfl ?_)
  have hS₂ := Heap.get?_update_self (Obj.mapSeq (·.push Value.none)) hS₁ rfl
  refine wpAny_updateSeq (hz := by seq_fits) hS₂ rfl ?_
  have hS₃ := Heap.get?_update_self (Obj.mapSeq (·.pop)) hS₂ rfl
  refine wpAny_pure ⟨plainId_quiet PySem.F.plain_extend_loop _, key _ _ (fun b o hb e => ?_) hS₃⟩
  exact (Heap.get?_update_other _ _ (Ne.symm hb)).trans ((Heap.get?_update_other _ _ (Ne.symm hb)).trans e)
theorem collectD {R : List Value → Shared → Prop} {κ : Type} [DecidableEq κ] {knd : PySem.KeyKind prog w κ} {kvs : List (κ × Value)} (hh : A.handled = none) (hsys : (d == sysModules) = false) (hm : s.heap.DictAt knd d kvs ep) (ho : s.heap.get? d = some od) (hdd : od.data = .dict es ep) (hk : kvs.length = es.size) (hn : es.size ≤ sizeLine)
    (h : ∀ (h' : Heap), (∀ b o, s.heap.get? b = some o → h'.get? b = some o) → s.heap.objs.size < h'.objs.size → R (es.toList.map (·.key)) { s with heap := h' }) :
    wpAny (model prog w) A (collect (.ref d)) R E s := by
  have hd : d < s.heap.objs.size := Heap.lt_size ho
  unfold collect
  refine wpAny_bind (wpAny_runValue (codeAny_builtin entry_proto_collect' ?_))
  rw [Around.under_plainId PySem.F.plain_proto_collect _]
  show wpAny _ A.in1 (newList [] >>= fun l => again (.builtin "list.__iadd__" ⟨[l, .ref d], []⟩)) _ _ s
  refine wpAny_bind (wpAny_newObj_type ?_)
  refine wpAny_pure ⟨plainId_quiet PySem.F.plain_list_iadd _, codeAny_builtin entry_list_iadd' ?_⟩
  rw [Around.under_plainId PySem.F.plain_list_iadd _]
  have hS₁ : (s.heap.push { cls := .type "list", data := .seq ([] : List Value).toArray }).get? s.heap.objs.size = some { cls := .type "list", data := .seq #[] } := Heap.get?_push_size _ rfl
  show wpAny _ A.in1 (Builtin.List.listExtendWith (.ref s.heap.objs.size) (.ref d) (.ref s.heap.objs.size)) _ _ _
  have key := extD (prog := prog) (w := w) (A := A) (P2 := prog) (s := { s with heap := s.heap.push { cls := .type "list", data := .seq ([] : List Value).toArray } }) (es := es) (ep := ep) (od := od) (knd := knd) (kvs := kvs)
    (R := fun (q : Result) (s' : Shared) => ∃ (h' : Heap) (c' : Nat), q = .ok (.ret (.ref s.heap.objs.size)) ∧ s' = { s with heap := h' } ∧
      (∀ b o, s.heap.get? b = some o → h'.get? b = some o) ∧ h'.get? s.heap.objs.size = some { cls := .type "list", dict := none, data := .seq (es.map (·.key)) c', slots := #[] })
    hh hsys (hm.push _) (Heap.get?_push_of_some _ ho) hdd hk s.heap.objs.size (Nat.ne_of_lt hd) (.ref s.heap.objs.size) 0 hS₁
    (fun h' c' hk2 hS' => ⟨h', c', rfl, rfl, fun b o e => hk2 b o (Nat.ne_of_lt (Heap.lt_size e)) (Heap.get?_push_of_some _ e), hS'⟩) hn
  have fin : ∀ (h' : Heap) (c' : Nat), (∀ b o, s.heap.get? b = some o → h'.get? b = some o) → h'.get? s.heap.objs.size = some { cls := .type "list", dict := none, data := .seq (es.map (·.key)) c', slots := #[] } → R (es.map (·.key)).toList { s with heap := h' } := fun h' c' hk2 hS' => by
    rw [Array.toList_map]
    exact h h' hk2 (Heap.lt_size hS')
  refine wpAny_mono key (fun fn s' x => ?_) fun e s' x => ?_
  · cases fn with
    | done f =>
      obtain ⟨h', c', e, rfl, hk2, hS'⟩ := x
      cases e
      show wpAny _ A (load s.heap.objs.size >>= _) _ _ _
      refine wpAny_bind (wpAny_load hS' ?_)
      exact wpAny_pure (fin h' c' hk2 hS')
    | again c₁ =>
      refine ⟨x.1, codeAny_mono x.2 fun q s₂ y => ?_⟩
      obtain ⟨h', c', rfl, rfl, hk2, hS'⟩ := y
      show wpAny _ A (load s.heap.objs.size >>= _) _ _ _
      refine wpAny_bind (wpAny_load hS' ?_)
      exact wpAny_pure (fin h' c' hk2 hS')
  · obtain ⟨_, _, e', _⟩ := x
    cases e'
end
section
variable {X : Cx}
theorem keys_of {P : Program} {w : World} : ∀ {es : List DictEntry} {kvs : List (Key × Value)}, Pairs (mixKind P w) es kvs → es.length = kvs.length ∧ ∀ ns : List Int, kvs.map (·.1) = ns.map Sum.inl → IntsAre (es.map (·.key)) ns
  | _, _, .nil => ⟨rfl, fun ns h => by
    cases ns with
    | nil => exact .nil
    | cons n ns => cases h⟩
  | _, _, .cons hk hv hp => by
    obtain ⟨h1, h2⟩ := keys_of hp
    refine ⟨by simp [h1], fun ns h => ?_⟩
    cases ns with
    | nil => cases h
    | cons n ns =>
      injection h with e1 e2
      dsimp only at e1
      rcases keyIs_shape hk with ⟨i, t, h3, h4⟩ | ⟨x, t, h3, h4⟩
      · rw [h3] at e1
        cases e1
        rw [List.map_cons, h4]
        exact .cons _ _ (h2 ns e2)
      · rw [h3] at e1
        cases e1
/-- sorted(d), the keys ints -/
def rSortedD : List V → Hp → VK → Prop := fun vs H Q => ∃ (a : Addr) (kvs : List (Key × V)) (ns : List Int), vs = [V.ref a] ∧ H a = some (.dK kvs) ∧ kvs.map (·.1) = ns.map Sum.inl ∧ ∀ ns' : List Int, ns'.Perm ns → ns'.Pairwise (· ≤ ·) → New (.lst (ns'.map V.int)) H Q
theorem cr_sortedD (hc : X.calm = true) : CallR X (.builtin "sorted") rSortedD := by
  intro pins s σ H vs us Q I r h
  obtain ⟨a, kvs, ns, rfl, ha, hk, q⟩ := h
  rw [Vals.ref1 r]
  obtain ⟨z, hsys, vs, rel, dd⟩ := dk_of I.hok ha
  obtain ⟨ep, dat⟩ := dd.dictAt
  obtain ⟨od, es, ho, hex, hdat, hks, hp, hnd⟩ := id dat
  obtain ⟨l1, hi⟩ := keys_of hp
  have ek : vs.map (·.1) = kvs.map (·.1) := by
    have : ∀ {kvs : List (Key × V)} {vs : List (Key × Value)}, KV kvs vs → vs.map (·.1) = kvs.map (·.1) := fun rel => by
      induction rel with
      | nil => rfl
      | cons h _ ih => rw [List.map_cons, List.map_cons, ih, h.1]
    exact this rel
  have hI := hi ns (ek.trans hk)
  have lk : vs.length = es.size := by rw [← l1, Array.length_toList]
  have lz : es.size ≤ sizeLine := by
    rw [← lk, ← List.length_map (f := (·.1)), ek, List.length_map]
    exact z
  refine Calls.call_function_entry kind_sorted plain_sorted entry_sorted (args_sorted1 _) ?_
  unfold Builtin.«sorted»
  refine wpAny_bind (m := checkCount "sorted" 1 1 _) (wpAny_pure ?_)
  refine wpAny_bind (collectD (A := X.A.in1) (I.ok.hd hc) hsys dat ho hdat lk lz fun h' hk' hlt => ?_)
  refine wpAny_bind (wpAny_newList ?_ (by rw [List.length_map, Array.length_toList]; exact lz))
  have hoL : (h'.push (seqObj "list" (es.toList.map (·.key)).toArray 0)).get? h'.objs.size = some (seqObj "list" (es.toList.map (·.key)).toArray 0) := Heap.get?_push_size _ rfl
  refine wpAny_bind (wpAny_holding (wpAny_call_entry PyProof.Rows.slot_list_sort ⟨_, hoL, rfl⟩ PyProof.Rows.entry_list_sort
    (SrtO.list_sort_ord SrtO.swo_int hoL (by rw [List.length_map, Array.length_toList]; exact lz) (fun h2 => SrtO.ints_sortable hI h2) fun out h1 h2 => ⟨_, rfl, ?_⟩) (PyProof.Rows.args_list_sort _)))
  obtain ⟨k1, k2, k3⟩ := SrtO.ints_out hI h1 h2
  obtain ⟨c, hc'⟩ := sortedHeap_at (vs := es.toList.map (·.key)) (out := out.toArray) hoL
  have hlen : ((out.map SrtO.iv).map V.int).length ≤ sizeLine := by
    rw [List.length_map, k2.length_eq, ← hI.length, List.length_map, Array.length_toList]
    exact lz
  have hle : s.heap.objs.size ≤ h'.objs.size := Nat.le_of_lt hlt
  have hn : H h'.objs.size = none := I.hok.fresh hle
  refine wpAny_pure ⟨_, rfl, .ref _, upd H h'.objs.size (.lst ((out.map SrtO.iv).map V.int)), I.laid (t' := s.toks) (fun b o e => ?_) hle ⟨hlen, out, c, vals_of_ints k1, hc'⟩, rfl, (q _ k2 k3).go _ hn⟩
  have e1 := hk' b o e
  have hb := Heap.lt_size e1
  rw [sortedHeap_old (Nat.ne_of_lt hb) (by rw [Heap.size_push]; exact Nat.lt_succ_of_lt hb)]
  exact Heap.get?_push_of_some _ e1
end
end My
set_option Elab.async false
set_option linter.all false
set_option maxRecDepth 100000
set_option maxHeartbeats 4000000
/-! dicts with int keys, as a list of keys and a function. -/
namespace My
open PySem L2
def kvsOf (ns : List Int) (g : Int → V) : List (Key × V) := ns.map fun n => (Sum.inl n, g n)
theorem kvs_keys (ns : List Int) (g : Int → V) : (kvsOf ns g).map (·.1) = ns.map Sum.inl := by
  unfold kvsOf
  rw [List.map_map]
  rfl
theorem kvs_len (ns : List Int) (g : Int → V) : (kvsOf ns g).length = ns.length := by
  unfold kvsOf
  rw [List.length_map]
theorem kvs_congr {ns : List Int} {g g' : Int → V} (h : ∀ n ∈ ns, g n = g' n) : kvsOf ns g = kvsOf ns g' := by
  unfold kvsOf
  exact List.map_congr_left fun n hn => by rw [h n hn]
theorem valV_kvs (g : Int → V) (k : Int) : ∀ ns : List Int, valV (kvsOf ns g) (Sum.inl k) = if k ∈ ns then some (g k) else none
  | [] => rfl
  | n :: ns => by
    show valV ((Sum.inl n, g n) :: kvsOf ns g) (Sum.inl k) = _
    by_cases e : n = k
    · subst e
      rw [valV_pos rfl, if_pos List.mem_cons_self]
    · rw [valV_neg (fun z => e (Sum.inl.inj z)), valV_kvs g k ns]
      by_cases m : k ∈ ns
      · rw [if_pos m, if_pos (List.mem_cons_of_mem _ m)]
      · rw [if_neg m, if_neg (fun z => by
          rcases List.mem_cons.mp z with z | z
          · exact e z.symm
          · exact m z)]
theorem any_kvs (g : Int → V) (k : Int) (ns : List Int) : ((kvsOf ns g).any fun kv => decide (kv.1 = Sum.inl k)) = decide (k ∈ ns) := by
  unfold kvsOf
  rw [List.any_map, Bool.eq_iff_iff, List.any_eq_true]
  constructor
  · rintro ⟨n, hn, e⟩
    have : n = k := by simpa using e
    subst this
    exact decide_eq_true hn
  · intro h
    exact ⟨k, of_decide_eq_true h, by simp⟩
theorem putK_kvs (g : Int → V) (k : Int) (v : V) (ns : List Int) : putK (kvsOf ns g) (Sum.inl k) v = kvsOf (if k ∈ ns then ns else ns ++ [k]) (fun n => if n = k then v else g n) := by
  unfold putK
  rw [any_kvs]
  by_cases m : k ∈ ns
  · rw [decide_eq_true m, if_pos rfl, if_pos m]
    unfold kvsOf
    rw [List.map_map]
    refine List.map_congr_left fun n hn => ?_
    show (if (Sum.inl n : Key) = Sum.inl k then ((Sum.inl n : Key), v) else (Sum.inl n, g n)) = (Sum.inl n, if n = k then v else g n)
    by_cases e : n = k
    · rw [if_pos (by rw [e]), if_pos e]
    · rw [if_neg (fun z => e (Sum.inl.inj z)), if_neg e]
  · rw [decide_eq_false m, if_neg Bool.false_ne_true, if_neg m]
    unfold kvsOf
    rw [List.map_append]
    congr 1
    · refine List.map_congr_left fun n hn => ?_
      have z : ¬ n = k := fun z => m (by rw [← z]; exact hn)
      show (Sum.inl n, g n) = (Sum.inl n, if n = k then v else g n)
      rw [if_neg z]
    · show [(Sum.inl k, v)] = [(Sum.inl k, if k = k then v else g k)]
      rw [if_pos rfl]
theorem dropK_kvs (g : Int → V) (k : Int) (ns : List Int) : dropK (kvsOf ns g) (Sum.inl k) = kvsOf (ns.filter fun n => decide (n ≠ k)) g := by
  unfold dropK kvsOf
  rw [List.filter_map]
  congr 1
  refine List.filter_congr fun n hn => ?_
  show decide ((Sum.inl n : Key) ≠ Sum.inl k) = decide (n ≠ k)
  rw [decide_eq_decide]
  exact ⟨fun h e => h (by rw [e]), fun h e => h (Sum.inl.inj e)⟩
theorem put_nodup {ns : List Int} (h : ns.Nodup) (k : Int) : (if k ∈ ns then ns else ns ++ [k]).Nodup := by
  split
  · exact h
  · rename_i m
    rw [List.nodup_append]
    exact ⟨h, by simp, fun a ha b hb => by
      have : b = k := by simpa using hb
      subst this
      exact fun e => m (e ▸ ha)⟩
theorem mem_put {ns : List Int} {k r : Int} : r ∈ (if k ∈ ns then ns else ns ++ [k]) ↔ r ∈ ns ∨ r = k := by
  split
  · rename_i m
    exact ⟨.inl, fun h => h.elim id fun e => e ▸ m⟩
  · simp
/-- two ascending lists without doubles of the same members are one -/
theorem asc_unique : ∀ {l m : List Int}, l.Pairwise (· < ·) → m.Pairwise (· < ·) → (∀ r, r ∈ l ↔ r ∈ m) → l = m
  | [], [], _, _, _ => rfl
  | [], y :: m, _, _, h => by
    have := (h y).mpr List.mem_cons_self
    cases this
  | x :: l, [], _, _, h => by
    have := (h x).mp List.mem_cons_self
    cases this
  | x :: l, y :: m, h1, h2, h => by
    obtain ⟨a1, a2⟩ := List.pairwise_cons.mp h1
    obtain ⟨b1, b2⟩ := List.pairwise_cons.mp h2
    have e : x = y := by
      rcases List.mem_cons.mp ((h x).mp List.mem_cons_self) with z | z
      · exact z
      · rcases List.mem_cons.mp ((h y).mpr List.mem_cons_self) with z' | z'
        · exact z'.symm
        · have := b1 x z
          have := a1 y z'
          omega
    subst e
    rw [asc_unique a2 b2 fun r => ?_]
    constructor
    · intro hr
      rcases List.mem_cons.mp ((h r).mp (List.mem_cons_of_mem _ hr)) with z | z
      · have := a1 r hr
        omega
      · exact z
    · intro hr
      rcases List.mem_cons.mp ((h r).mpr (List.mem_cons_of_mem _ hr)) with z | z
      · have := b1 r hr
        omega
      · exact z
theorem asc_of {ns ns' : List Int} (hp : ns'.Perm ns) (hs : ns'.Pairwise (· ≤ ·)) (hn : ns.Nodup) : ns'.Pairwise (· < ·) := by
  have hn' : ns'.Nodup := hp.nodup_iff.mpr hn
  exact (List.Pairwise.and hs hn').imp fun ⟨h1, h2⟩ => by omega
end My
namespace My
open PySem L2
/-- a dict comprehension over any walk -/
theorem dc_it {J : It} {n : Nat} {G : Hp → Prop} {Y : Nat → Hp → V → Hp → Prop} (w : Walk J n G Y) {g : TG} {tt : TT} {tk tv : TE} {vs : List Nat} {σ : L2.St} {H1 : Hp} {D : Addr} {Qd : Hp → Prop} (Pv : Nat → Hp → Prop) (h0 : Pv 0 (upd H1 D (.dK []))) (hG : ∀ i H, i ≤ n → Pv i H → G H)
    (hs : ∀ i x H H', i < n → Pv i H → Y i H x H' → g x (wipe σ vs) H' fun σ2 H2 => wipe σ2 vs = wipe σ vs ∧ tt σ2 H2 fun b H3 =>
      if b = true then tk σ2 H3 fun y H4 => tv σ2 H4 fun z H5 => ∃ kvs k, y = kV k ∧ H5 D = some (.dK kvs) ∧ kvs.length < sizeLine ∧ Pv (i + 1) (upd H5 D (.dK (putK kvs k z))) else Pv (i + 1) H3) (hd : ∀ H, Pv n H → Qd H) :
    ∃ W : Nat → Nat → Hp → Prop, (∃ m, W 0 m (upd H1 D (.dK []))) ∧ ∀ i m H, W i m H →
      (J.stop i H ∧ Qd H) ∨ (J.go i H ∧ ∃ Nx : Hp → Prop, (∀ H', Nx H' → ∃ m', m' < m ∧ W (i + 1) m' H') ∧ ∀ x H', J.yld i H x H' → g x (wipe σ vs) H' fun σ2 H2 => wipe σ2 vs = wipe σ vs ∧ tt σ2 H2 fun b H3 =>
        if b = true then tk σ2 H3 fun y H4 => tv σ2 H4 fun z H5 => ∃ kvs k, y = kV k ∧ H5 D = some (.dK kvs) ∧ kvs.length < sizeLine ∧ Nx (upd H5 D (.dK (putK kvs k z))) else Nx H3) := by
  refine ⟨fun i m H => m = n - i ∧ i ≤ n ∧ Pv i H, ⟨n, by simp, Nat.zero_le _, h0⟩, ?_⟩
  rintro i m H ⟨rfl, hi, p⟩
  have q := hG i H hi p
  by_cases hlt : i < n
  · exact .inr ⟨w.goes i H hlt q, Pv (i + 1), fun H' p' => ⟨n - (i + 1), by omega, rfl, hlt, p'⟩, fun x H' y => hs i x H H' hlt p (w.yields i H x H' hlt q y)⟩
  · have e : i = n := by omega
    subst e
    exact .inl ⟨w.stops H q, hd H p⟩
end My
namespace My
open PySem PySem.Spec PyProof.Rows L2
section
variable {X : Cx}
/-- x = {k: v for ..} -/
theorem ps_setDc {i : Nat} {y : Str} {py : Pos} {kx vx tg iter : Expr} {ifs : List Expr} {scope : Scope} {own : List (Str × Nat)} {pos spos : Pos} {wi : TI} {g : TG} {tt : TT} {tk tv : TE} (hc : X.calm = true) (hN : X.N.Nodup) (hy : X.N[i]? = some y) (hyl : X.env.scope.names.lookup y = some .local)
    (hsw : swapsWith (.DictComp kx vx [⟨tg, iter, ifs, 0⟩] scope pos) (some (.Name y py)) spos.line X.env = pure true) (hi : PI X tg iter wi) (ok : BlkOk X.N X.env.scope scope own)
    (hg : ∀ (s : Shared) (H : Hp) (C : Addr) (cl : List (Str × Addr)) (fp : List Addr), PG (X.blk s H scope (compEnvC scope cl C X.env) fp) tg g) (ht : ∀ (s : Shared) (H : Hp) (C : Addr) (cl : List (Str × Addr)) (fp : List Addr), PTs (X.blk s H scope (compEnvC scope cl C X.env) fp) ifs tt)
    (hk : ∀ (s : Shared) (H : Hp) (C : Addr) (cl : List (Str × Addr)) (fp : List Addr), PE (X.blk s H scope (compEnvC scope cl C X.env) fp) kx tk)
    (he : ∀ (s : Shared) (H : Hp) (C : Addr) (cl : List (Str × Addr)) (fp : List Addr), PE (X.blk s H scope (compEnvC scope cl C X.env) fp) vx tv) (hs : ∀ x, foldedSetIterable iter X.env x = pure x := by intro _; rfl) :
    PS X (.Assign [.Name y py] (.DictComp kx vx [⟨tg, iter, ifs, 0⟩] scope pos) spos) (tAsg (tDc wi g tt tk tv (own.map (·.2))) (gName i)) := by
  refine ⟨fun pins s σ H D I h => ?_⟩
  rw [exec_Assign_Name_used _ _ _ _ hsw]
  refine wpAny_bind (wpAny_standAt (wpAny_bind ?_))
  show wpAny _ X.A (do let _ ← comprehension (.DictComp kx vx [⟨tg, iter, ifs, 0⟩] scope pos) scope X.env (firstIterPos [⟨tg, iter, ifs, 0⟩] pos) newDict false (eval iter X.env) (some (assign (.Name y py) X.env))) _ _ s
  have h : tDc wi g tt tk tv (own.map (·.2)) σ H (fun x H1 => gName i x σ H1 D.nx) := h
  refine wpAny_bind (thn (dc_core (Qf := fun _ s' => SP X pins D .next s') hc hN I hi ok hg ht hk he hs h fun L C s' m H' I' q hn f => ?_) fun _ s' hq => wpAny_pure (wpAny_pure hq))
  show wpAny _ _ (assign (.Name y py) X.env (.ref L)) _ _ _
  refine wpAny_assign_Name (store_ok2 (v := V.ref L) I' hN hy (.inl hyl) rfl (fun s2 I2 ⟨a, sb, ha⟩ => ?_) (.inr hyl))
  obtain ⟨f0, f1, f2, f3, f4, f5⟩ := f
  have haC : C ≠ a := by
    rcases ha with z | z
    · rw [z]; exact f1
    · exact fun e => f4 y a z e.symm
  refine ⟨m, hn.sameBut sb haC, fun h3 sb3 => ?_⟩
  exact ⟨_, H', I2.turned (t' := s2.toks) (fun b o hb e => (sb3.2 b hb).trans e) f0 f1 f3 f4 f5, q⟩
theorem sw_trueD {kx vx : Expr} {gs : List Comprehension} {scope : Scope} {pos py : Pos} {y : Str} {l : Nat} {env : Env} (hk : env.scope.kind = .function) (hy : env.scope.names.lookup y = some .local) (hl : (py.line == pos.line) = true)
    (ha : (scope.names.any fun (n, k) => n == y && (k == .local || k == .cell)) = false) : swapsWith (.DictComp kx vx gs scope pos) (some (.Name y py)) l env = pure true := by
  have ky : env.kindOf y = some .local := hy
  have hb : env.blockKind = .function := by unfold Env.blockKind; rw [hk]; rfl
  unfold swapsWith
  simp only [hb, ky, ha, Expr.pos, hl]
  rfl
end
end My
namespace My
open PySem L2
theorem cut_mid (xs : List V) {n m : Nat} (h : m ≤ xs.length) : cutV xs (some (n : Int)) (some (m : Int)) = (xs.drop n).take (m - n) := by
  unfold cutV
  rw [HT.sIx_nat, HT.sIx_nat, Nat.min_eq_left h]
  by_cases h2 : n ≤ xs.length
  · rw [Nat.min_eq_left h2]
  · rw [Nat.min_eq_right (by omega), List.drop_eq_nil_of_le (Nat.le_refl _), List.drop_eq_nil_of_le (by omega), List.take_nil, List.take_nil]
theorem nodup_len : ∀ {l m : List Int}, l.Nodup → (∀ r ∈ l, r ∈ m) → l.length ≤ m.length
  | [], _, _, _ => Nat.zero_le _
  | x :: l, m, h, s => by
    obtain ⟨h1, h2⟩ := List.nodup_cons.mp h
    have hx := s x List.mem_cons_self
    have := nodup_len (m := m.erase x) h2 fun r hr => (List.mem_erase_of_ne (fun e : r = x => h1 (by rw [← e]; exact hr))).mpr (s r (List.mem_cons_of_mem _ hr))
    rw [List.length_erase_of_mem hx] at this
    have : 0 < m.length := List.length_pos_of_mem hx
    rw [List.length_cons]
    omega
/-- the keys of a dict of marks -/
structure FdOk (f : Int → Bool) (dom ks : List Int) : Prop where
  nd : ks.Nodup
  is : ∀ r, r ∈ ks ↔ f r = true
  dm : ∀ r ∈ ks, r ∈ dom
theorem FdOk.len {f : Int → Bool} {dom ks : List Int} (h : FdOk f dom ks) : ks.length ≤ dom.length := nodup_len h.nd h.dm
theorem FdOk.congr {f g : Int → Bool} {dom ks : List Int} (h : FdOk f dom ks) (e : ∀ r, f r = g r) : FdOk g dom ks := ⟨h.nd, fun r => by rw [h.is, e], h.dm⟩
theorem FdOk.put {f : Int → Bool} {dom ks : List Int} (h : FdOk f dom ks) {k : Int} (hk : k ∈ dom) : FdOk (fun r => if r = k then true else f r) dom (if k ∈ ks then ks else ks ++ [k]) :=
  ⟨put_nodup h.nd k, fun r => by
    rw [mem_put, h.is]
    by_cases e : r = k
    · simp [e]
    · simp [e], fun r hr => by
    rcases mem_put.mp hr with z | z
    · exact h.dm r z
    · exact z ▸ hk⟩
theorem FdOk.drop {f : Int → Bool} {dom ks : List Int} (h : FdOk f dom ks) (k : Int) : FdOk (fun r => if r = k then false else f r) dom (ks.filter fun n => decide (n ≠ k)) :=
  ⟨h.nd.sublist List.filter_sublist, fun r => by
    rw [List.mem_filter, h.is]
    by_cases e : r = k
    · simp [e]
    · simp [e], fun r hr => h.dm r (List.mem_filter.mp hr).1⟩
abbrev tt : Int → V := fun _ => .bl true
theorem putK_tt (k : Int) (ks : List Int) : putK (kvsOf ks tt) (Sum.inl k) (.bl true) = kvsOf (if k ∈ ks then ks else ks ++ [k]) tt := by
  rw [putK_kvs]
  exact kvs_congr fun n _ => by
    show (if n = k then V.bl true else .bl true) = .bl true
    split <;> rfl
theorem kvs_snoc (ks : List Int) (g : Int → V) (k : Int) (h : k ∉ ks) : putK (kvsOf ks g) (Sum.inl k) (g k) = kvsOf (ks ++ [k]) g := by
  rw [putK_kvs, if_neg h]
  exact kvs_congr fun n _ => by
    show (if n = k then g k else g n) = g n
    split
    · rename_i e
      rw [e]
    · rfl
theorem nodup_inj {ns : List Int} (h : ns.Nodup) {i j : Nat} (hi : i < ns.length) (hj : j < ns.length) (e : ns[i] = ns[j]) : i = j := by
  have hp := List.pairwise_iff_getElem.mp h
  rcases Nat.lt_trichotomy i j with z | z | z
  · exact absurd e (hp i j hi hj z)
  · exact z
  · exact absurd e.symm (hp j i hj hi z)
theorem nodup_take {ns : List Int} (h : ns.Nodup) (i : Nat) {x : Int} (hx : ns[i]? = some x) : x ∉ ns.take i := fun m => by
  obtain ⟨j, hj, e⟩ := List.getElem_of_mem m
  rw [List.length_take] at hj
  rw [List.getElem_take] at e
  obtain ⟨hi, e2⟩ := List.getElem?_eq_some_iff.mp hx
  have := nodup_inj h (i := j) (j := i) (by omega) hi (by rw [e, e2])
  omega
theorem idx_of {ns : List Int} (h : ns.Nodup) {i : Nat} {x : Int} (hx : ns[i]? = some x) : ns.idxOf x = i := by
  obtain ⟨hi, e2⟩ := List.getElem?_eq_some_iff.mp hx
  have hm : x ∈ ns := List.mem_of_getElem? hx
  have hlt := List.idxOf_lt_length_of_mem hm
  exact nodup_inj h (i := ns.idxOf x) (j := i) hlt hi (by rw [List.getElem_idxOf, e2])
theorem take_snoc {α : Type} {ns : List α} {i : Nat} {x : α} (hx : ns[i]? = some x) : ns.take (i + 1) = ns.take i ++ [x] := by
  rw [List.take_add_one, hx]
  rfl
theorem foldl_take {α β : Type} {f : β → α → β} {b : β} {cs : List α} {i : Nat} {c : α} (h : cs[i]? = some c) : (cs.take (i + 1)).foldl f b = f ((cs.take i).foldl f b) c := by
  rw [take_snoc h, List.foldl_append]
  rfl
theorem peBMK {X : Cx} {K : PySem.W.Frag} (h : X.K = K) {e : Expr} {T : String} {r : V → List V → Hp → VK → Prop} {to : TE} {t : TA} (p : PE X e (tBM X.K T r to t)) : PE X e (tBM K T r to t) := h ▸ p
theorem peBM0K {X : Cx} {K : PySem.W.Frag} (h : X.K = K) {e : Expr} {T : String} {r : V → List V → Hp → VK → Prop} {to : TE} (p : PE X e (tBM0 X.K T r to)) : PE X e (tBM0 K T r to) := h ▸ p
section
variable {X : Cx} {e : Expr} {te : L2.St → Hp → (Int → Int → Hp → Prop) → Prop}
def tCutR (te : L2.St → Hp → (Int → Int → Hp → Prop) → Prop) : L2.St → Hp → (Int → Int → Hp → Prop) → Prop := fun σ H Q => ∃ M : Int → Int → Hp → Prop, te σ H M ∧ ∀ a b H', M a b H' → Q a b H'
theorem prg_cut (h : PRg X e te) : PRg X e (tCutR te) := fun pins s σ H Q I ⟨M, hm, hq⟩ => thn (h pins s σ H M I hm) fun x s1 ⟨r, a, b, t, u, v, H', e1, e2, I1, q⟩ => ⟨r, a, b, t, u, v, H', e1, e2, I1, hq a b H' q⟩
def tLstRgG (te : L2.St → Hp → (Int → Int → Hp → Prop) → Prop) : TE := fun σ H Q => te σ H fun a b H1 => RgOk a b ∧ New (.lst (rgV a b)) H1 Q
/-- list(range(..)) -/
theorem pe_listRgG {p pos : Pos} (hc : X.calm = true) (hg : Gl X "list") (hm : X.mg "list" = none) (he : PRg X e te) (na : PySem.starEach [e] X.env = (false, PySem.eval e X.env) :: PySem.starEach [] X.env := by rfl) : PE X (.Call (.Name "list" p) [e] [] pos) (tLstRgG te) :=
  pe_weak (pe_listRg hc hg hm (prg_cut he) na) fun σ H Q q => ⟨_, q, fun _ _ _ z => ⟨z.1, fun p hp => z.2.go p hp⟩⟩
/-- the ints 0 .. n - 1 -/
def upN (n : Nat) : List Int := (List.range n).map fun i => ((i : Nat) : Int)
theorem rgV_upN (n : Nat) : rgV 0 (n : Int) = (upN n).map V.int := by
  unfold rgV upN
  rw [List.map_map]
  have e : ((n : Int) - 0).toNat = n := by omega
  rw [e]
  exact List.map_congr_left fun i _ => by
    show V.int (0 + (i : Int)) = V.int (i : Int)
    rw [Int.zero_add]
theorem upN_len (n : Nat) : (upN n).length = n := by
  unfold upN
  rw [List.length_map, List.length_range]
theorem upN_mem {n : Nat} {r : Int} (h : r ∈ upN n) : 0 ≤ r ∧ r < n := by
  unfold upN at h
  obtain ⟨i, hi, rfl⟩ := List.mem_map.mp h
  have := List.mem_range.mp hi
  omega
theorem upN_nodup (n : Nat) : (upN n).Nodup := by
  unfold upN
  show List.Pairwise _ _
  rw [List.pairwise_map]
  exact List.nodup_range.imp fun h => by omega
end
end My
set_option Elab.async false
set_option linter.all false
set_option maxRecDepth 100000
set_option maxHeartbeats 4000000
/-! repr: how long what is shown can be; repr of any data without dicts. -/
namespace My
open PySem PySem.Spec PyProof.Rows L2
/-- data that can be shown, no deeper than n, in at most M signs -/
structure Shw (d : PyData) (n M : Nat) : Prop where
  sh : d.showable = true
  nd : d.hasDict = false
  dp : d.depth ≤ n
  ln : d.shown.length ≤ M
theorem Shw.mono {d : PyData} {n m M L : Nat} (h : Shw d n M) (h1 : n ≤ m) (h2 : M ≤ L) : Shw d m L := ⟨h.sh, h.nd, Nat.le_trans h.dp h1, Nat.le_trans h.ln h2⟩
theorem log_of {i : Int} (h : i.natAbs < 2 ^ 1900) : i.natAbs.log2 < 1920 := by
  have := PySem.Flt.log2_lt_of (k := 1900) (by decide) h
  omega
theorem Shw.int {i : Int} (h : i.natAbs.log2 < 1920) : Shw (.int i) 0 1921 := ⟨decide_eq_true h, rfl, Nat.le_refl _, by
  show (Str.ofString (toString i)).length ≤ 1921
  rw [PySem.ofString_length]
  exact int_text_length_le (k := 1920) (by decide) h⟩
theorem Shw.none : Shw .none 0 4 := ⟨rfl, rfl, Nat.le_refl _, by decide⟩
theorem Shw.bool (b : Bool) : Shw (.bool b) 0 5 := ⟨rfl, rfl, Nat.le_refl _, by cases b <;> decide⟩
theorem textFrom_le : ∀ (ts : List Str) (k : Nat) (acc : Str), (textFrom k acc ts).length ≤ acc.length + piled ts
  | [], k, acc => by
    show acc.length ≤ acc.length + piled []
    omega
  | t :: r, k, acc => by
    have ih := textFrom_le r (k + 1) (acc ++ (if k > 0 then ", " else "" : String) ++ t)
    have l2 : (if k > 0 then 2 else 0) ≤ 2 := by split <;> omega
    have e : (acc ++ (if k > 0 then ", " else "" : String) ++ t).length = acc.length + (if k > 0 then 2 else 0) + t.length := by
      rw [Str.length_append, Str.length_append]
      split <;> rfl
    rw [e] at ih
    show (textFrom (k + 1) (acc ++ (if k > 0 then ", " else "" : String) ++ t) r).length ≤ _
    rw [piled_cons]
    omega
theorem piled_le {M : Nat} : ∀ ts : List Str, (∀ t ∈ ts, t.length ≤ M) → piled ts ≤ ts.length * (M + 2)
  | [], _ => Nat.zero_le _
  | t :: r, h => by
    have ih := piled_le r fun x hx => h x (List.mem_cons_of_mem _ hx)
    have := h t List.mem_cons_self
    rw [piled_cons, List.length_cons, Nat.succ_mul]
    omega
theorem all_of {n M : Nat} : ∀ {xs : List PyData}, (∀ x ∈ xs, Shw x n M) → PyData.showableAll xs = true ∧ PyData.hasDictAll xs = false ∧ PyData.depthAll xs ≤ n ∧ (PyData.shownAll xs).length = xs.length ∧ ∀ t ∈ PyData.shownAll xs, t.length ≤ M
  | [], _ => ⟨rfl, rfl, Nat.zero_le _, rfl, fun t ht => by cases ht⟩
  | x :: xs, h => by
    obtain ⟨h1, h2, h3, h4, h5⟩ := all_of (xs := xs) fun y hy => h y (List.mem_cons_of_mem _ hy)
    have hx := h x List.mem_cons_self
    refine ⟨?_, ?_, ?_, ?_, fun t ht => ?_⟩
    · show (PyData.showable x && PyData.showableAll xs) = true
      rw [hx.sh, h1]
      rfl
    · show (PyData.hasDict x || PyData.hasDictAll xs) = false
      rw [hx.nd, h2]
      rfl
    · exact Nat.max_le.mpr ⟨hx.dp, h3⟩
    · show (PyData.shownAll xs).length + 1 = xs.length + 1
      rw [h4]
    · rcases List.mem_cons.mp (show t ∈ PyData.shown x :: PyData.shownAll xs from ht) with z | z
      · rw [z]
        exact hx.ln
      · exact h5 t z
theorem Shw.list {n M : Nat} {xs : List PyData} (h : ∀ x ∈ xs, Shw x n M) : Shw (.list xs) (n + 1) (2 + xs.length * (M + 2)) := by
  obtain ⟨h1, h2, h3, h4, h5⟩ := all_of h
  refine ⟨h1, h2, by show PyData.depthAll xs + 1 ≤ n + 1; omega, ?_⟩
  show (textFrom 0 "[" (PyData.shownAll xs) ++ ("]" : Str)).length ≤ _
  have a := textFrom_le (PyData.shownAll xs) 0 "["
  have b := piled_le _ h5
  have e1 : ((("[" : String) : Str)).length = 1 := rfl
  have e2 : ((("]" : String) : Str)).length = 1 := rfl
  rw [Str.length_append, e2]
  rw [e1] at a
  rw [h4] at b
  omega
theorem Shw.tuple {n M : Nat} {xs : List PyData} (h : ∀ x ∈ xs, Shw x n M) : Shw (.tuple xs) (n + 1) (3 + xs.length * (M + 2)) := by
  obtain ⟨h1, h2, h3, h4, h5⟩ := all_of h
  refine ⟨h1, h2, by show PyData.depthAll xs + 1 ≤ n + 1; omega, ?_⟩
  show (tupleText (PyData.shownAll xs)).length ≤ _
  have b := piled_le _ h5
  unfold tupleText
  rw [Str.length_append, Str.length_append]
  have e1 : ((("(" : String) : Str)).length = 1 := rfl
  have e3 : (((if (PyData.shownAll xs).length == 1 then ",)" else ")" : String) : Str)).length ≤ 2 := by split <;> decide
  rw [e1]
  rw [h4] at b
  by_cases z : PyData.shownAll xs = []
  · rw [z] at e3 ⊢
    have : (Str.join ", " ([] : List Str)).length = 0 := rfl
    omega
  · have := join_length_add _ z
    omega
/-- ints within some bits -/
def Bd (b : Nat) (ns : List Int) : Prop := ∀ n ∈ ns, n.natAbs < 2 ^ b
theorem Shw.ints {b : Nat} {ns : List Int} (hb : b ≤ 1900) (h : Bd b ns) : Shw (eL PyData.int ns) 1 (2 + ns.length * 1923) := by
  have := Shw.list (n := 0) (M := 1921) (xs := ns.map PyData.int) fun x hx => by
    obtain ⟨n, hn, rfl⟩ := List.mem_map.mp hx
    exact Shw.int (log_of (Nat.lt_of_lt_of_le (h n hn) (Nat.pow_le_pow_right (by decide) hb)))
  rw [List.length_map] at this
  exact this
section
variable {X : Cx}
/-- repr of any data without dicts -/
def rReprA (K : PySem.W.Frag) : List V → Hp → VK → Prop := fun vs H Q => ∃ (v : V) (d : PyData), vs = [v] ∧ Dp K H v d ∧ Shw d 60 sizeLine ∧ Q (.str d.shown) H
theorem cr_reprA (gd : X.A.guards = some []) (hu : X.A.units + 64 < cLine) : CallR X (.builtin "repr") (rReprA X.K) := by
  intro pins s σ H vs us Q I r h
  obtain ⟨v, d, rfl, hd, sw, q⟩ := h
  obtain ⟨u, rfl, ru⟩ := vals1 r
  cases hd with
  | non =>
    cases ru
    exact PySem.P.repr_of_none ⟨.str _, H, I.tok _, ⟨_, rfl⟩, q⟩
  | bl b =>
    cases ru
    exact PySem.P.repr_of_bool ⟨.str _, H, I.tok _, ⟨_, rfl⟩, q⟩
  | int i =>
    obtain ⟨t, rfl⟩ := ru
    exact PySem.P.repr_of_int (of_decide_eq_true sw.sh) ⟨.str _, H, I.tok _, ⟨_, rfl⟩, q⟩
  | str x =>
    obtain ⟨t, rfl⟩ := ru
    exact PySem.P.repr_of_str ⟨.str _, H, I.tok _, ⟨_, rfl⟩, q⟩ sw.ln
  | lst h1 h2 => exact cr_repr gd hu pins s σ H _ _ Q I r ⟨_, _, rfl, .lst h1 h2, sw.sh, sw.nd, sw.dp, sw.ln, ⟨_, rfl⟩, q⟩
  | tup h1 h2 => exact cr_repr gd hu pins s σ H _ _ Q I r ⟨_, _, rfl, .tup h1 h2, sw.sh, sw.nd, sw.dp, sw.ln, ⟨_, rfl⟩, q⟩
end
end My
set_option Elab.async false
set_option linter.all false
set_option maxRecDepth 100000
set_option maxHeartbeats 4000000
/-! Own classes: len(o) by an own __len__, o == p and o != p by an own __eq__. -/
namespace My
open PySem PySem.Spec PyProof.Rows L2
section
variable {X : Cx} {CX : CXT} {n : Nat} {f C : Addr} {fd : FuncData} {ps : List Str} {sp : Sp} {E : XK}
/-- a def called with an around one deeper; what is raised does not leave -/
theorem run_in1 {pins : List (Addr × Obj)} {σ : L2.St} {H : Hp} {s : Shared} {Q : VK} {E' : Value → Shared → Prop} {us : List Value} {vs : List V} (F : FnOk X.prog X.w X.K X.mg X.base CX n f fd ps sp) (hr : Room (n + 1) X.A) (hb : Binds X.K fd ps []) (hx : Passes CX X.nox E)
    (I : Inv X pins σ H s) (r : Vals vs us) (h : sp vs H Q E) : wpAny (model X.prog X.w) X.A.in1 (call (.ref f) us) (EP X pins σ Q) E' s := by
  have hl : us.length = ps.length := by rw [← r.length]; exact F.len _ _ _ _ h
  have hb' := hb s us I.kIn (by rw [List.append_nil]; exact hl)
  rw [List.append_nil] at hb'
  refine wpAny_call (codeAny_mono (F.run X.A.in1 X.stack s H ⟨us, []⟩ us vs Q E hr.in1 I.env0.in1 hb' r h) fun r s' hq => ?_)
  cases r with
  | error er => exact False.elim (hx pins σ H s er s' (I.wish _) hq)
  | ok fl =>
    cases fl with
    | ret u => exact I.after hq
    | next => exact False.elim hq
    | brk => exact False.elim hq
    | cont => exact False.elim hq
def rLenO (C : Addr) (sp : Sp) (E : XK) : List V → Hp → VK → Prop := fun vs H Q => ∃ a dx fs, vs = [V.ref a] ∧ H a = some (.ins C dx fs) ∧ sp [.ref a] H (fun v H' => ∃ m : Int, v = .int m ∧ 0 ≤ m ∧ m < 2 ^ 63 ∧ Q (.int m) H') E
theorem cr_lenO (F : FnOk X.prog X.w X.K X.mg X.base CX n f fd ps sp) (hr : Room (n + 1) X.A) (hs : PySem.W.findIn X.K (.ref C) "__len__" = some (some (.ref f))) (hf : PySem.W.isFn X.K (.ref f) = true) (hb : Binds X.K fd ps []) (hx : Passes CX X.nox E) : CallR X (.builtin "len") (rLenO C sp E) := by
  intro pins s σ H vs us Q I r h
  obtain ⟨a, dx, fs, rfl, ha, h⟩ := h
  rw [Vals.ref1 r]
  obtain ⟨mA, J, _⟩ := ins_get I.hok ha
  obtain ⟨od, J, _⟩ := J.look
  obtain ⟨m, hF⟩ := I.fr
  refine PySem.W.len_K hF I.ok.mod.kin J hs hf (wpAny_mono (run_in1 (vs := [V.ref a]) F hr hb hx I (.cons rfl .nil) h) (fun u s' z => ?_) fun _ _ e => e)
  obtain ⟨v, H', I', rv, m, rfl, m0, m1, q⟩ := z
  obtain ⟨t, rfl⟩ := rv
  exact ⟨⟨m0, m1⟩, .int m, H', I'.tok _, ⟨_, rfl⟩, q⟩
def rEqO (C : Addr) (sp : Sp) (E : XK) : R2 := fun x y H Q => ∃ a b dx fs dy gs, x = .ref a ∧ y = .ref b ∧ H a = some (.ins C dx fs) ∧ H b = some (.ins C dy gs) ∧ sp [.ref a, .ref b] H (fun v H' => ∃ r : Bool, v = .bl r ∧ Q (.bl r) H') E
def rNeO (C : Addr) (sp : Sp) (E : XK) : R2 := fun x y H Q => ∃ a b dx fs dy gs, x = .ref a ∧ y = .ref b ∧ H a = some (.ins C dx fs) ∧ H b = some (.ins C dy gs) ∧ sp [.ref a, .ref b] H (fun v H' => ∃ r : Bool, v = .bl r ∧ Q (.bl (!r)) H') E
theorem run_here {pins : List (Addr × Obj)} {σ : L2.St} {H : Hp} {s : Shared} {Q : VK} {us : List Value} {vs : List V} (F : FnOk X.prog X.w X.K X.mg X.base CX n f fd ps sp) (hr : Room n X.A) (hb : Binds X.K fd ps []) (hx : Passes CX X E)
    (I : Inv X pins σ H s) (r : Vals vs us) (h : sp vs H Q E) : wpAny (model X.prog X.w) X.A (call (.ref f) us) (EP X pins σ Q) X.xe s := by
  have hl : us.length = ps.length := by rw [← r.length]; exact F.len _ _ _ _ h
  have hb' := hb s us I.kIn (by rw [List.append_nil]; exact hl)
  rw [List.append_nil] at hb'
  refine wpAny_call (codeAny_mono (F.run X.A X.stack s H ⟨us, []⟩ us vs Q E hr I.env0 hb' r h) fun r s' hq => ?_)
  cases r with
  | error er => exact hx pins σ H s er s' I hq
  | ok fl =>
    cases fl with
    | ret u => exact I.after hq
    | next => exact False.elim hq
    | brk => exact False.elim hq
    | cont => exact False.elim hq
theorem op_eqO (F : FnOk X.prog X.w X.K X.mg X.base CX n f fd ps sp) (hr : Room n X.A) (hs : PySem.W.findIn X.K (.ref C) "__eq__" = some (some (.ref f))) (hf : PySem.W.isFn X.K (.ref f) = true) (hb : Binds X.K fd ps []) (hx : Passes CX X E) : OpR X (compareOp .Eq) (rEqO C sp E) := by
  intro pins s σ H x y v u Q I rx ry h
  obtain ⟨a, b, dx, fs, dy, gs, rfl, rfl, ha, hb', h⟩ := h
  cases rx
  cases ry
  obtain ⟨mA, J, _⟩ := ins_get I.hok ha
  obtain ⟨mB, J', _⟩ := ins_get I.hok hb'
  obtain ⟨od, J, _⟩ := J.look
  obtain ⟨od', J', _⟩ := J'.look
  obtain ⟨m, hF⟩ := I.fr
  show wpAny (model X.prog X.w) X.A (richCompare .Eq (.ref a) (.ref b)) (EP X pins σ Q) X.xe s
  refine PySem.W.cmp_K (op := .Eq) (tb := .ref C) hr.units0 hF I.ok.mod.kin J J'.type (by simp [PySem.W.notFirst]) hs hf ?_
  refine wpAny_mono (run_here (vs := [V.ref a, V.ref b]) F hr hb hx I (.cons rfl (.cons rfl .nil)) h) (fun u s' z => ?_) fun _ _ e => e
  obtain ⟨v, H', I', rv, r, rfl, q⟩ := z
  cases rv
  exact ⟨.bl r, H', I', rfl, q⟩
theorem ifBound_objNe {M : Model} {A : Around} {E : Value → Shared → Prop} {s : Shared} {K : PySem.W.Frag} {x C : Addr} {ox : Obj} {od : Option Obj} {args : List Value} {Q : Option Value → Shared → Prop} (KX : K.In s.heap) (I : PySem.W.InstAt s.heap x ox C od) (hs : PySem.W.findIn K (.ref C) "__ne__" = some (some (.builtin "object.__ne__")))
    (h : wpAny M A (call (.builtin "object.__ne__") (.ref x :: args)) (fun v => Q (some v)) E s) : wpAny M A (callSpecialIfBound? (.ref x) "__ne__" args) Q E s := by
  simp only [callSpecialIfBound?, bindSpecialIfBound?]
  refine wpAny_holding (wpAny_bind (wpAny_bind (wpAny_bind (I.type.here ((PySem.W.looks_findIn KX hs).here ?_)))))
  refine wpAny_bind (wpAny_askSetting (wpAny_ite ?_))
  have fin : wpAny M A (call (.builtin "object.__ne__") ([.ref x] ++ args) >>= fun v => pure (some v)) Q E s := wpAny_bind (wpAny_mono h (fun v s' h' => wpAny_pure h') fun _ _ h' => h')
  split
  · exact wpAny_bind (wpAny_of_eq (F.cmp_object.ne.bind _) (wpAny_pure (by exact fin)))
  · exact wpAny_tryCatch (wpAny_bind (wpAny_of_eq (F.cmp_object.ne.bind _) (wpAny_pure (by exact fin))))
theorem op_neO (F : FnOk X.prog X.w X.K X.mg X.base CX n f fd ps sp) (hr : Room (n + 1) X.A) (hs : PySem.W.findIn X.K (.ref C) "__eq__" = some (some (.ref f))) (hn : PySem.W.findIn X.K (.ref C) "__ne__" = some (some (.builtin "object.__ne__"))) (hm : PySem.W.mroIn X.K C (.type "object") = some true) (hf : PySem.W.isFn X.K (.ref f) = true) (hb : Binds X.K fd ps []) (hx : Passes CX X.nox E) : OpR X (compareOp .NotEq) (rNeO C sp E) := by
  intro pins s σ H x y v u Q I rx ry h
  obtain ⟨a, b, dx, fs, dy, gs, rfl, rfl, ha, hb', h⟩ := h
  cases rx
  cases ry
  obtain ⟨mA, J, _⟩ := ins_get I.hok ha
  obtain ⟨mB, J', _⟩ := ins_get I.hok hb'
  obtain ⟨od, J, _⟩ := J.look
  obtain ⟨od', J', _⟩ := J'.look
  have KX := I.kIn
  show wpAny (model X.prog X.w) X.A (richCompare .NotEq (.ref a) (.ref b)) (EP X pins σ Q) X.xe s
  have one : wpAny (model X.prog X.w) X.A (tryCompare (.ref a) "__ne__" (.ref b)) (fun r s' => ∃ v, r = some v ∧ EP X pins σ Q v s') X.xe s := by
    unfold tryCompare
    refine wpAny_bind (ifBound_objNe KX J hn ?_)
    refine wpAny_call (codeAny_call_builtin PySem.F.cmp_object.ne.plain PySem.F.cmpEntry_ne (PySem.W.check_slot PySem.F.cmpKind_ne PySem.F.cmpSplit_ne (J.type.andThen (PySem.W.looks_mroIn KX hm)) (PySem.F.cmpArgs_ne _ _) ?_))
    unfold Builtin.«object.__ne__»
    refine wpAny_bind (wpAny_pure ?_)
    refine wpAny_bind (wpAny_cRoomFor (hr.in1).units0 ?_)
    refine wpAny_bind (m := callSpecialIfBound? (.ref a) (Str.ofString "__eq__") _) (PySem.W.ifBound_K KX J hs hf (wpAny_mono (run_in1 (vs := [V.ref a, V.ref b]) F hr hb hx I (.cons rfl (.cons rfl .nil)) h) (fun u s' z => ?_) fun _ _ e => e))
    obtain ⟨v, H', I', rv, r, rfl, q⟩ := z
    cases rv
    show wpAny _ X.A.in1 (truthy (.bool r) >>= _) _ _ s'
    refine wpAny_bind (wpAny_truthy_bool ?_)
    refine wpAny_pure ?_
    show wpAny _ X.A _ _ _ s'
    exact wpAny_pure ⟨_, rfl, .bl (!r), H', I', rfl, q⟩
  unfold richCompare
  simp only [oneThing_ref]
  refine wpAny_holding (wpAny_bind (wpAny_cRoomFor hr.units0 ?_))
  refine wpAny_bind (J.type.here (wpAny_bind (J'.type.here ?_)))
  split
  · rename_i q
    simp at q
  · refine wpAny_bind (wpAny_pure ?_)
    simp only [Bool.false_eq_true, if_false]
    refine wpAny_bind (wpAny_mono one (fun r s' z => ?_) fun _ _ e => e)
    obtain ⟨v, rfl, hq⟩ := z
    exact wpAny_pure hq
theorem pe_fldK {K : PySem.W.Frag} (h : X.K = K) {e : Expr} {g : Str} {ta : TE} (p : PE X e (tFld X.K ta g)) : PE X e (tFld K ta g) := h ▸ p
/-- tuple(x): of a list a new one, of a tuple itself -/
def rTupleA (K : PySem.W.Frag) : List V → Hp → VK → Prop := fun xs H Q => ∃ p ys, xs = [V.ref p] ∧ ((SqL K H p ys ∧ New (.tup ys) H Q) ∨ (SqT K H p ys ∧ Q (.ref p) H))
theorem call_tupleA : CallR X (.type "tuple") (rTupleA X.K) := fun pins s σ H xs us Q I r ⟨p, ys, h1, h2⟩ => call_tuple_of pins s σ H xs us Q I r ⟨p, ys, h1, h2.imp (fun z => ⟨z.1, fun l hl => z.2.go l hl⟩) id⟩
end
end My
set_option Elab.async false
set_option linter.all false
set_option maxRecDepth 100000
set_option maxHeartbeats 4000000
/-! sorted(xs) of any alike data (tuples, lists, texts, ints, nested), as a rule of the hand layer. -/
namespace My
open PySem PySem.Spec PyProof.Rows L2
open PySem.W (EachIs AllAlike Sortable dataKind sortVals KeyedOut dataLe)
/-- the values sorted by their data -/
def zsort (xs : List V) (ds : List PyData) : List V := ((xs.zip ds).mergeSort (dataLe false (·.2))).map (·.1)
def dsort (ds : List PyData) : List PyData := ds.mergeSort (dataLe false fun d => d)
theorem zsort_len {xs : List V} {ds : List PyData} (h : xs.length = ds.length) : (zsort xs ds).length = xs.length := by
  unfold zsort
  rw [List.length_map, List.length_mergeSort, List.length_zip, h, Nat.min_self]
theorem each_reads {h : Heap} : ∀ {vs : List Value} {ds : List PyData} {as : List Addr}, ReadsAll h vs ds as → EachIs (fun v d => ∃ as, Reads h v d as) vs ds
  | _, _, _, .nil => .nil
  | _, _, _, .cons h t => .cons ⟨_, h⟩ (each_reads t)
theorem each_vals : ∀ {us : List Value} {ps : List (V × PyData)}, EachIs (fun (u : Value) (p : V × PyData) => RelV p.1 u) us ps → Vals (ps.map (·.1)) us
  | _, _, .nil => .nil
  | _, _, .cons h t => .cons h (each_vals t)
theorem each_zip : ∀ {xs : List V} {us : List Value} {ds : List PyData}, Vals xs us → xs.length = ds.length → EachIs (fun (u : Value) (p : V × PyData) => RelV p.1 u) us (xs.zip ds)
  | _, _, [], .nil, _ => .nil
  | _, _, _ :: _, .nil, h => by cases h
  | _, _, [], .cons _ _, h => by cases h
  | _, _, _ :: _, .cons h t, e => .cons h (each_zip t (by simpa using e))
theorem dpLen {K : PySem.W.Frag} {H : Hp} : ∀ {xs : List V} {ds : List PyData}, DpAll K H xs ds → xs.length = ds.length
  | _, _, .nil => rfl
  | _, _, .cons _ t => by simp [dpLen t]
section
variable {X : Cx}
def rSortedA (K : PySem.W.Frag) : List V → Hp → VK → Prop := fun vs H Q => ∃ (a : Addr) (xs : List V) (ds : List PyData), vs = [V.ref a] ∧ SqL K H a xs ∧ DpAll K H xs ds ∧ AllAlike ds ∧ Sortable ds ∧ (∀ d ∈ ds, d.depth ≤ 60) ∧ New (.lst (zsort xs ds)) H Q
theorem cr_sortedA (hu : X.A.units + 64 < cLine) : CallR X (.builtin "sorted") (rSortedA X.K) := by
  intro pins s σ H vs us Q I r h
  obtain ⟨a, xs, ds, rfl, hs, hd, hal, hso, hdep, q⟩ := h
  obtain ⟨its, rv, hl, hz⟩ := I.list hs
  rw [Vals.ref1 r]
  obtain ⟨as, hr⟩ := Dp.readsAll I ds xs its hd rv
  have hlen := dpLen hd
  have e0 := each_reads hr
  have e1 : EachIs (fun v d => ∃ as, Reads (PySem.W.sortingHeap (PySem.W.copyHeap s.heap its) (s.heap.objs.size + 1) its) v d as) its ds := e0.mono fun v d ⟨as, z⟩ => ⟨as, Reads.keeps (fun b o e => PySem.W.sorting_copy_old e) z⟩
  refine PySem.W.sorted_vals (κ := dataKind (PySem.W.sortingHeap (PySem.W.copyHeap s.heap its) (s.heap.objs.size + 1) its) ds) hl.isList (PySem.W.SortsAt.data (s := { s with heap := PySem.W.sortingHeap (PySem.W.copyHeap s.heap its) (s.heap.objs.size + 1) its }) e1 hal hso fun d m => ?_) (by rw [← rv.length]; exact hz) ?_
  · show X.A.units + 1 + 1 + d.depth < cLine
    have := hdep d m
    omega
  · have ez : (xs.zip ds).map (·.2) = ds := by
      rw [← List.zip_unzip (xs.zip ds)]
      simp [List.map_snd_zip, hlen]
    have ko : KeyedOut false ((xs.zip ds).map (·.2)) its (sortVals (dataKind (PySem.W.sortingHeap (PySem.W.copyHeap s.heap its) (s.heap.objs.size + 1) its) ds) false its its) := by
      rw [ez]
      exact ⟨_, its, hal, rfl, e1⟩
    have ev := each_vals (PySem.W.keyedOut_each (·.2) ko (each_zip rv hlen))
    obtain ⟨n, hn⟩ := sortedAll_at s.heap its (sortVals (dataKind (PySem.W.sortingHeap (PySem.W.copyHeap s.heap its) (s.heap.objs.size + 1) its) ds) false its its).toArray
    refine ⟨.ref _, upd H _ (.lst (zsort xs ds)), I.laid (t' := s.toks) (fun b o e => sortedAll_old e) (Nat.le_succ _) ⟨?_, _, n, ev, hn⟩, rfl, q.go _ (I.hok.fresh (Nat.le_succ _))⟩
    rw [zsort_len hlen]
    exact hz
/-- xs[::-1] -/
def tRevG (K : PySem.W.Frag) (te : TE) : TE := fun σ H Q => te σ H fun x H1 => ∃ a xs, x = .ref a ∧ SqL K H1 a xs ∧ New (.lst xs.reverse) H1 Q
theorem pe_revG {e : Expr} {te : TE} {k : Nat} {p1 p2 p3 pos : Pos} (he : PE X e te) : PE X (.Subscript e (.Slice none none (some (.UnaryOp .USub (.Constant (.int 1) k p1) p2)) p3) pos) (tRevG X.K te) :=
  pe_weak (pe_revL (pe_cut he)) fun σ H Q q => ⟨_, q, fun _ _ ⟨a, xs, h1, h2, h3⟩ => ⟨a, xs, h1, h2, fun p hp => h3.go p hp⟩⟩
theorem pe_revK {K : PySem.W.Frag} (h : X.K = K) {e : Expr} {te : TE} {k : Nat} {p1 p2 p3 pos : Pos} (he : PE X e te) : PE X (.Subscript e (.Slice none none (some (.UnaryOp .USub (.Constant (.int 1) k p1) p2)) p3) pos) (tRevG K te) := h ▸ pe_revG he
end
end My
set_option Elab.async false
set_option linter.all false
set_option maxRecDepth 100000
set_option maxHeartbeats 4000000
/-! Lists of objects, pair by pair; comprehensions that make objects; sorting of objects by their data. -/
namespace My
open PySem PySem.Spec PyProof.Rows L2
open PySem.W (AllAlike Sortable dataLe)
def AllR {α : Type} (R : V → α → Prop) (vs : List V) (xs : List α) : Prop := vs.length = xs.length ∧ ∀ (i : Nat) v x, vs[i]? = some v → xs[i]? = some x → R v x
section
variable {α β : Type} {R S : V → α → Prop} {vs us : List V} {xs ys : List α}
theorem AllR.nil : AllR R [] [] := ⟨rfl, fun i v x h => by cases h⟩
theorem AllR.mono (h : AllR R vs xs) (k : ∀ v x, R v x → S v x) : AllR S vs xs := ⟨h.1, fun i v x h1 h2 => k v x (h.2 i v x h1 h2)⟩
theorem AllR.get (h : AllR R vs xs) {i : Nat} {v : V} (hi : vs[i]? = some v) : ∃ x, xs[i]? = some x ∧ R v x := by
  have hlt : i < vs.length := (List.getElem?_eq_some_iff.mp hi).1
  have hr : xs[i]? = some (xs[i]'(by rw [← h.1]; exact hlt)) := List.getElem?_eq_getElem _
  exact ⟨_, hr, h.2 i v _ hi hr⟩
theorem AllR.row (h : AllR R vs xs) {i : Nat} {x : α} (hi : xs[i]? = some x) : ∃ v, vs[i]? = some v ∧ R v x := by
  have hlt : i < xs.length := (List.getElem?_eq_some_iff.mp hi).1
  have hr : vs[i]? = some (vs[i]'(by rw [h.1]; exact hlt)) := List.getElem?_eq_getElem _
  exact ⟨_, hr, h.2 i _ x hr hi⟩
theorem AllR.append (h : AllR R vs xs) (k : AllR R us ys) : AllR R (vs ++ us) (xs ++ ys) := by
  refine ⟨by simp [h.1, k.1], fun i v x h1 h2 => ?_⟩
  by_cases z : i < vs.length
  · rw [List.getElem?_append_left z] at h1
    rw [List.getElem?_append_left (by rw [← h.1]; exact z)] at h2
    exact h.2 i v x h1 h2
  · rw [List.getElem?_append_right (by omega)] at h1
    rw [List.getElem?_append_right (by rw [← h.1]; omega), ← h.1] at h2
    exact k.2 _ v x h1 h2
theorem AllR.one {v : V} {x : α} (h : R v x) : AllR R [v] [x] := ⟨rfl, fun i u y h1 h2 => by
  cases i with
  | zero =>
    cases h1
    cases h2
    exact h
  | succ n => cases h1⟩
theorem AllR.snoc (h : AllR R vs xs) {v : V} {x : α} (k : R v x) : AllR R (vs ++ [v]) (xs ++ [x]) := h.append (AllR.one k)
theorem AllR.take (h : AllR R vs xs) (n : Nat) : AllR R (vs.take n) (xs.take n) := by
  refine ⟨by simp [h.1], fun i v d h1 h2 => ?_⟩
  rw [List.getElem?_take] at h1 h2
  split at h1
  · rename_i z
    rw [if_pos z] at h2
    exact h.2 i v d h1 h2
  · cases h1
theorem AllR.dp {K : PySem.W.Frag} {H : Hp} {e : α → PyData} : ∀ {vs : List V} {xs : List α}, AllR R vs xs → (∀ v x, R v x → Dp K H v (e x)) → DpAll K H vs (xs.map e)
  | [], [], _, _ => .nil
  | [], _ :: _, h, _ => by cases h.1
  | _ :: _, [], h, _ => by cases h.1
  | v :: vs, x :: xs, h, k => .cons (k v x (h.2 0 v x rfl rfl)) (AllR.dp ⟨by simpa using h.1, fun i u y h1 h2 => h.2 (i + 1) u y h1 h2⟩ k)
/-- sorted objects, by the data of them -/
theorem AllR.sort (key : α → PyData) (h : AllR R vs xs) : AllR R (zsort vs (xs.map key)) (xs.mergeSort (dataLe false key)) := by
  have e1 : zsort vs (xs.map key) = ((vs.zip xs).mergeSort (fun p q => dataLe false key p.2 q.2)).map (·.1) := by
    unfold zsort
    have e : vs.zip (xs.map key) = (vs.zip xs).map (fun p => (p.1, key p.2)) := by
      rw [List.zip_map_right]
      rfl
    rw [e, ← List.map_mergeSort (r := fun p q => dataLe false key p.2 q.2) (fun _ _ _ _ => rfl), List.map_map]
    rfl
  have e2 : xs.mergeSort (dataLe false key) = ((vs.zip xs).mergeSort (fun p q => dataLe false key p.2 q.2)).map (·.2) := by
    rw [List.map_mergeSort (s := dataLe false key) (fun _ _ _ _ => rfl), List.map_snd_zip]
    rw [h.1]
    exact Nat.le_refl _
  rw [e1, e2]
  have hp := List.mergeSort_perm (vs.zip xs) (fun p q => dataLe false key p.2 q.2)
  generalize (vs.zip xs).mergeSort (fun p q => dataLe false key p.2 q.2) = Z at hp
  refine ⟨by simp, fun i v x h1 h2 => ?_⟩
  rw [List.getElem?_map] at h1 h2
  cases z : Z[i]? with
  | none => rw [z] at h1; cases h1
  | some p =>
    rw [z] at h1 h2
    cases h1
    cases h2
    have hm : p ∈ vs.zip xs := hp.mem_iff.mp (List.mem_of_getElem? z)
    obtain ⟨k, hk⟩ := List.getElem?_of_mem hm
    rw [List.getElem?_zip_eq_some] at hk
    exact h.2 k _ _ hk.1 hk.2
theorem none_of {H H' : Hp} {p : Addr} (e : Ex H H') (h : H' p = none) : H p = none := by
  cases z : H p with
  | none => rfl
  | some o => rw [e _ _ z] at h; cases h
theorem ne_some {H H' : Hp} {p D : Addr} (e : Ex H H') (h : H' p = none) (hD : H D ≠ none) : p ≠ D := fun z => hD (none_of e (z ▸ h))
/-- a comprehension without tests over a list, each element an object (or any value) that R tells -/
theorem lc_objL {K : PySem.W.Frag} {a : Addr} {xs : List V} {ys : List α} {R : Hp → V → α → Prop} {g : TG} {te : TE} {vs : List Nat} {σ : L2.St} {H1 : Hp} {D : Addr} {Qd : Hp → Prop} (hx : SqL K H1 a xs) (hD : H1 D = none) (hl : ys.length = xs.length) (hz : xs.length ≤ sizeLine)
    (st : ∀ H' H'' v y, R H' v y → Exj D H' H'' → R H'' v y)
    (he : ∀ (i : Nat) x y H', Ex H1 H' → H' D ≠ none → xs[i]? = some x → ys[i]? = some y → ∀ (N : VK) (Z : Hp → Prop), (∀ v H2, Ex H' H2 → R H2 v y → N v H2) → g x (wipe σ vs) H' fun σ2 H2 => wipe σ2 vs = wipe σ vs ∧ tYes σ2 H2 fun b H3 => if b = true then te σ2 H3 N else Z H3)
    (k : ∀ H' us, Ex H1 H' → H' D = some (.lst us) → AllR (R H') us ys → Qd H') :
    ∃ W : Nat → Nat → Hp → Prop, (∃ m, W 0 m (upd H1 D (.lst []))) ∧ ∀ i m H, W i m H →
      ((Itl K a).stop i H ∧ Qd H) ∨ ((Itl K a).go i H ∧ ∃ Nx : Hp → Prop, (∀ H', Nx H' → ∃ m', m' < m ∧ W (i + 1) m' H') ∧ ∀ x H', (Itl K a).yld i H x H' → g x (wipe σ vs) H' fun σ2 H2 => wipe σ2 vs = wipe σ vs ∧ tYes σ2 H2 fun b H3 =>
        if b = true then te σ2 H3 fun y H4 => ∃ acc, H4 D = some (.lst acc) ∧ acc.length < sizeLine ∧ Nx (upd H4 D (.lst (acc ++ [y]))) else Nx H3) := by
  refine lc_it (walk_list (K := K) (a := a) (xs := xs)) (fun i H' => ∃ us, Ex H1 H' ∧ H' D = some (.lst us) ∧ us.length = i ∧ AllR (R H') us (ys.take i)) ⟨[], Evl.Ex.new hD, upd_same, rfl, AllR.nil⟩ (fun i H' _ ⟨_, e, _⟩ => Evl.ex_l e hx) ?_ ?_
  · rintro i x H' H3 hi ⟨us, e', d', l', a'⟩ ⟨rfl, hv⟩
    have hy : ys[i]? = some (ys[i]'(by omega)) := List.getElem?_eq_getElem (by omega)
    refine he i x _ H3 e' (fun z => by rw [d'] at z; cases z) hv hy _ _ fun v H2 e2 r2 => ⟨us, e2 _ _ d', by omega, us ++ [v], Evl.Ex.mut (e'.trans e2) hD, upd_same, by simp [l'], ?_⟩
    rw [List.take_add_one, hy]
    have y1 : Exj D H2 (upd H2 D (.lst (us ++ [v]))) := (Exj.refl _ _).upd
    exact AllR.snoc (a'.mono fun u y r => st _ _ u y (st _ _ u y r (Exj.of e2)) y1) (st _ _ _ _ r2 y1)
  · rintro H' ⟨us, e', d', l', a'⟩
    rw [List.take_of_length_le (by omega)] at a'
    exact k H' us e' d' a'
end
end My
set_option Elab.async false
set_option linter.all false
set_option maxRecDepth 100000
set_option maxHeartbeats 4000000
/-! set(xs) of a list of ints as a set whose order is known; sorted(set(xs)); x in xs of nested data; a + b of own objects. -/
namespace My
open PySem PySem.Spec PyProof.Rows L2 PySem.SeqAt
abbrev nset (w : World) : Obj := { cls := .type "set", dict := none, data := .set #[] 0 (.fresh 0 0 (!w.params.followText "set-order")) }
section
variable {P : Program} {w : World} {A : Around} {E : Value → Shared → Prop} {s : Shared}
theorem call_set_lst {l : Addr} {xs : Array Value} (ns : List Int) {Q : Value → Shared → Prop} (hd : A.handled = none) (ha : s.heap.IsList l xs) (hi : IntsAre xs.toList ns) (hz : ns.length + 1 < scanBound)
    (k : ∀ (h1 : Heap) (tk c : Nat), SetR w h1 s.heap.objs.size (fun j => decide (j ∈ ns)) c → c ≤ ns.length → (∀ b o, s.heap.get? b = some o → h1.get? b = some o) → Q (.ref s.heap.objs.size) { s with heap := h1, toks := tk }) :
    wpAny (model P w) A (call (.type "set") [.ref l]) Q E s := by
  have nl : xs.size = ns.length := (Array.length_toList (xs := xs)).symm.trans hi.length
  obtain ⟨mc, ml, m0⟩ := F.called_set.mro; have m1 := F.called_set.made; have m2 := F.called_set.sub
  refine wpAny_call (codeAny_of_tree (show wpAny _ _ (callAny (.type "set") _) _ _ _ from wpAny_pure ⟨Code.quiet_builtin _ (by decide +kernel), codeAny_builtin F.entry_type_call ?_⟩))
  rw [Around.under_plain (weight_type_call_type "set" [.ref l] []) (by rfl)]
  have m3 := F.called_set.notType; have m4 := F.called_set.canCreate; have m5 := F.typeCall_set_1 (.ref l)
  repeat (any_goals (first | assumption | wp_step))
  refine codeAny_mono (code_set_led1 (.ref l) (E := E) (Q₁ := fun o s1 => o = .ref s.heap.objs.size ∧ s1 = { s with heap := s.heap.push (nset w) }) ⟨rfl, rfl⟩) fun r s1 hr => ?_
  rcases r with e | fl
  · exact hr
  rcases fl with _ | _ | _ | ob
  all_goals first | exact hr.elim | skip
  obtain ⟨rfl, rfl⟩ := hr
  have gS : (s.heap.push (nset w)).get? s.heap.objs.size = some (nset w) := Heap.get?_push_size _ rfl
  have tS : Shared.TypeIs { s with heap := s.heap.push (nset w) } (.ref s.heap.objs.size) "set" := ⟨_, gS, rfl⟩
  have m6 := F.called_set.init.lookup; have m7 := F.called_set.init.bind (.ref s.heap.objs.size)
  repeat (any_goals (first | assumption | wp_step))
  refine codeAny_mono (codeAny_call_builtin (R := wants (fun r s2 => r = .none ∧ ∃ h1 tk c, s2 = { s with heap := h1, toks := tk } ∧ SetR w h1 s.heap.objs.size (fun j => decide (j ∈ ns)) c ∧ c ≤ ns.length ∧ ∀ b o, s.heap.get? b = some o → h1.get? b = some o) E) F.called_set.init.plain F.entry_set_init (check_set_init_1 tS ?_)) fun r2 s2 hr2 => ?_
  · obtain ⟨⟨oc, od, ot, os⟩, ho, c1, m, c2⟩ := ha
    simp only at c1 c2
    subst c1; subst c2
    have ho1 : (s.heap.push (nset w)).get? l = some ⟨.type "list", od, .seq xs m, os⟩ := Heap.get?_push_of_some _ ho
    have b1 := F.sub_list_set; have b2 := F.sub_list_frozenset; have b3 : (Value.type "list" == Value.type "dict") = false := by decide
    have hl1 : (s.heap.push (nset w)).IsList l xs := ⟨_, ho1, rfl, m, rfl⟩
    unfold Builtin.«set.__init__» noKeywords Builtin.Frozenset.updateFrom
    generalize hI : pyIter = PI
    wp_walk
    subst hI
    refine wpAny_pyIter_list hl1 (wpAny_bind (wpAny_runValue ?_))
    have lS : l < s.heap.objs.size := Heap.lt_size ho
    have d3 : A.in1.in1.in1.handled = none := by simp [hd]
    have e1 : (s.heap.push (nset w)).objs.size = s.heap.objs.size + 1 := Heap.size_push ..
    have lI : l ≠ (s.heap.push (nset w)).objs.size := by rw [e1]; exact Nat.ne_of_lt (Nat.lt_succ_of_lt lS)
    have nf : s.heap.objs.size ∉ [(s.heap.push (nset w)).objs.size, l] := by
      rw [e1]; intro z
      rcases List.mem_cons.mp z with q | q
      · exact absurd q (Nat.ne_of_lt (Nat.lt_succ_self _))
      · exact absurd (List.mem_singleton.mp q) (Nat.ne_of_gt lS)
    have vs : ∀ (i : Nat) (v : Value), xs[i]? = some v → ∃ k t, ns[i]? = some k ∧ v = .int k t := fun i v hv => by
      have il : i < ns.length := nl ▸ (Array.getElem?_eq_some_iff.mp hv).1
      obtain ⟨t, e⟩ := hi.int_at i v (by simpa using hv)
      exact ⟨ns[i], t, List.getElem?_eq_getElem il, by rw [e, List.getD_eq_getElem?_getD, List.getElem?_eq_getElem il]; rfl⟩
    refine set_update_ints ((Walks.list d3 _ l lI xs).toS) s.heap.objs.size nf ns nl hz vs (xs.size - 0) 0 _ (by omega) (Nat.zero_le _) ⟨⟨_, Heap.get?_push_size _ rfl, rfl, rfl⟩, hl1.push _⟩ ⟨0, Nat.le_refl 0, setR_new_at (Heap.get?_push_of_some _ gS)⟩ ?_
    intro s3 c3 hm hc3 hS3
    obtain ⟨h3, g3, dr3, tk3, o3⟩ := s3
    have q1 : g3 = s.gens := hm.gens; have q2 : dr3 = s.drawn := hm.drawn; have q3 : o3 = s.os := hm.os
    subst q1; subst q2; subst q3
    refine (show wpAny _ _ _ _ _ _ from wpAny_pure (show wpAny _ _ (ret Value.none) _ _ _ from wpAny_pure ⟨rfl, h3, tk3, c3, rfl, hS3, nl ▸ hc3, fun b o e => ?_⟩))
    have bl : b < s.heap.objs.size := Heap.lt_size e
    refine hm.heap b o ?_ (Heap.get?_push_of_some _ (Heap.get?_push_of_some _ e))
    rw [e1]
    intro z
    rcases List.mem_cons.mp z with q | q
    · exact absurd q (Nat.ne_of_lt bl)
    · exact absurd (List.mem_singleton.mp q) (Nat.ne_of_lt (Nat.lt_succ_of_lt bl))
  · rcases r2 with e | fl
    · exact hr2
    rcases fl with _ | _ | _ | v
    all_goals first | exact hr2.elim | skip
    obtain ⟨rfl, h1, tk, c, rfl, hS, hc, hk⟩ := hr2
    repeat (any_goals (first | assumption | wp_step))
    exact k _ _ _ hS hc hk
end
section
variable {X : Cx}
/-- sorted(set(xs)) -/
def tSortSet (K : PySem.W.Frag) (ta : TE) : TE := fun σ H Q => ta σ H fun x H1 => ∃ (l : Addr) (ns : List Int), x = V.ref l ∧ SqL K H1 l (ns.map V.int) ∧ ns.length < 64 ∧ ∀ ms : List Int, ms.Pairwise (· < ·) → (∀ k, k ∈ ms ↔ k ∈ ns) → New (.lst (ms.map V.int)) H1 Q
theorem pe_sortSet {a : Expr} {ta : TE} {p p2 q pos : Pos} (hg : Gl X "sorted") (hm : X.mg "sorted" = none) (hg2 : Gl X "set") (hm2 : X.mg "set" = none) (ha : PE X a ta) (hc : X.calm = true := by rfl)
    (na : starEach [a] X.env = (false, eval a X.env) :: starEach [] X.env := by rfl) : PE X (.Call (.Name "sorted" p) [.Call (.Name "set" p2) [a] [] q] [] pos) (tSortSet X.K ta) := by
  refine ⟨fun pins s σ H Q I h => ?_⟩
  refine Call_ (ld_blt I hg hm (show bootBuiltins "sorted" = some (.builtin "sorted") by decide +kernel) (PyProof.Rows.callWith_builtin1 (PyProof.Rows.args_cons ?_ rfl) rfl rfl))
  refine Call_ (ld_blt I hg2 hm2 PyProof.Rows.boot_set (PyProof.Rows.callWith_type1 (PyProof.Rows.args_cons (thn (ha.run pins s σ H _ I h) fun v s1 ⟨x, H1, I1, r1, q1⟩ => PyProof.Rows.args_nil ?_) na) na rfl))
  obtain ⟨l, ns, rfl, hq, hz, q1⟩ := q1
  cases r1
  obtain ⟨its, r, pl, _⟩ := I1.list hq
  have hlen : its.length = ns.length := by rw [← r.length, List.length_map]
  refine call_set_lst ns (I1.ok.hd hc) pl.isList (by simpa using r.ints) (by unfold scanBound; omega) fun h1 tk c hS hc1 hk => ?_
  refine PyProof.Rows.args_nil ?_
  have I2 : Inv X pins σ H1 { s1 with heap := h1, toks := tk } := I1.kept hk
  refine sorted_set hS (I2.ok.hd hc) (by omega) fun s' p' out c' ms kp g o hp hgt hi hs hmem hl => ?_
  have ml : (ms.map V.int).length ≤ sizeLine := by rw [List.length_map, hl]; exact Nat.le_trans (show _ ≤ 64 by omega) (by decide)
  have hn : H1 p' = none := I2.hok.fresh hp
  have J : Inv X pins σ (upd H1 p' (.lst (ms.map V.int))) { ({ s1 with heap := h1, toks := tk } : Shared) with heap := s'.heap, gens := s'.gens, drawn := s'.drawn, toks := s'.toks } :=
    I2.call (ch := []) (Un.laid kp hp hn) (I2.hok.laid kp hp ⟨ml, out.toList, c', vals_of_ints hi, hgt⟩) (by rw [g]; exact I2.bare) (fun _ z => nomatch z)
  have e : s' = { ({ s1 with heap := h1, toks := tk } : Shared) with heap := s'.heap, gens := s'.gens, drawn := s'.drawn, toks := s'.toks } := by
    obtain ⟨_, _, _, _, _⟩ := s'
    cases o
    rfl
  rw [e]
  exact ⟨.ref p', _, J, rfl, (q1 ms hs (fun k => by rw [hmem]; simp)).go p' hn⟩
theorem u65 {k : Nat} {A : Around} (r : Room k A) : A.units + 65 < cLine := by have := r.un; omega
/-- x in xs, x not in xs of nested data -/
def rInD (neg : Bool) (K : PySem.W.Frag) : R2 := fun x y H Q => ∃ d ds, Dp K H x d ∧ Dp K H y (.list ds) ∧ SeqAt.shaped d = true ∧ SeqAt.shaped (.list ds) = true ∧ Q (.bl (if neg = true then !(ds.any fun e => PyData.eqv e d) else ds.any fun e => PyData.eqv e d)) H
theorem op_inD (hu : X.A.units + 65 < cLine) : OpR X (compareOp .In) (rInD false X.K) := by
  intro pins s σ H x y v u Q I rx ry ⟨d, ds, hd, he, sd, se, q⟩
  obtain ⟨as, r1⟩ := Dp.reads I d x v hd rx
  obtain ⟨bs, r2⟩ := Dp.reads I _ y u he ry
  exact in_list_reads r2 r1 (canLay_of_shaped se) (canLay_of_shaped sd) (room_in_shaped sd hu) ⟨.bl _, H, I, rfl, q⟩
theorem op_notInD (hu : X.A.units + 65 < cLine) : OpR X (compareOp .NotIn) (rInD true X.K) := by
  intro pins s σ H x y v u Q I rx ry ⟨d, ds, hd, he, sd, se, q⟩
  obtain ⟨as, r1⟩ := Dp.reads I d x v hd rx
  obtain ⟨bs, r2⟩ := Dp.reads I _ y u he ry
  exact notIn_list_reads r2 r1 (canLay_of_shaped se) (canLay_of_shaped sd) (room_in_shaped sd hu) ⟨.bl _, H, I, rfl, q⟩
variable {CX : CXT} {n : Nat} {f C : Addr} {fd : FuncData} {ps : List Str} {sp : Sp} {E : XK}
/-- a + b of an own class -/
def rAddO (C : Addr) (sp : Sp) (E : XK) : R2 := fun x y H Q => ∃ a b dx fs dy gs, x = .ref a ∧ y = .ref b ∧ H a = some (.ins C dx fs) ∧ H b = some (.ins C dy gs) ∧ sp [.ref a, .ref b] H (fun v H' => ∃ r, v = .ref r ∧ Q (.ref r) H') E
theorem op_addO (F : FnOk X.prog X.w X.K X.mg X.base CX n f fd ps sp) (hr : Room n X.A) (hs : PySem.W.findIn X.K (.ref C) "__add__" = some (some (.ref f))) (hf : PySem.W.isFn X.K (.ref f) = true) (hc : PySem.W.selfFirst X.K C = true) (hb : Binds X.K fd ps []) (hx : Passes CX X E) : OpR X (binaryOp .Add) (rAddO C sp E) := by
  intro pins s σ H x y v u Q I rx ry h
  obtain ⟨a, b, dx, fs, dy, gs, rfl, rfl, ha, hb', h⟩ := h
  cases rx
  cases ry
  obtain ⟨mA, J, _⟩ := ins_get I.hok ha
  obtain ⟨mB, J', _⟩ := ins_get I.hok hb'
  obtain ⟨od, J, _⟩ := J.look
  obtain ⟨od', J', _⟩ := J'.look
  obtain ⟨m, hF⟩ := I.fr
  refine PySem.W.binop_K (op := .Add) hF I.ok.mod.kin J J'.type hc hs hf ?_
  refine wpAny_mono (run_here (vs := [V.ref a, V.ref b]) F hr hb hx I (.cons rfl (.cons rfl .nil)) h) (fun u s' z => ?_) fun _ _ e => e
  obtain ⟨v, H', I', rv, r, rfl, q⟩ := z
  cases rv
  exact ⟨.ref r, H', I', rfl, q⟩
end
end My
set_option Elab.async false
set_option linter.all false
set_option maxRecDepth 100000
set_option maxHeartbeats 4000000
/-! [x for x in xs if t], xs a list of ints. -/
namespace My
open PySem PySem.Spec PyProof.Rows L2
theorem mapI_at {ts : List Int} {i : Nat} {x : V} (h : (ts.map V.int)[i]? = some x) : ∃ t, ts[i]? = some t ∧ x = V.int t := by
  rw [List.getElem?_map] at h
  cases q : ts[i]? with
  | none => rw [q] at h; cases h
  | some t => rw [q] at h; cases h; exact ⟨t, rfl, rfl⟩
theorem lc_filtI {K : PySem.W.Frag} {a : Addr} {ns : List Int} {p : Int → Bool} {j : Nat} {tt : TT} {te : TE} {vs : List Nat} {σ : L2.St} {H1 : Hp} {D : Addr} {Qd : Hp → Prop} (hx : SqL K H1 a (ns.map V.int)) (hD : H1 D = none) (hz : ns.length ≤ 1000)
    (hw : ∀ x, wipe ((wipe σ vs).set j (some x)) vs = wipe σ vs)
    (ht : ∀ n H', n ∈ ns → Ex H1 H' → ∀ R : Bool → Hp → Prop, (∀ H2, Ex H' H2 → R (p n) H2) → tt ((wipe σ vs).set j (some (.int n))) H' R)
    (he : ∀ n H' (N : VK), N (.int n) H' → te ((wipe σ vs).set j (some (.int n))) H' N)
    (k : ∀ H', Ex H1 H' → H' D = some (.lst ((ns.filter p).map V.int)) → Qd H') :
    ∃ W : Nat → Nat → Hp → Prop, (∃ m, W 0 m (upd H1 D (.lst []))) ∧ ∀ i m H, W i m H →
      ((Itl K a).stop i H ∧ Qd H) ∨ ((Itl K a).go i H ∧ ∃ Nx : Hp → Prop, (∀ H', Nx H' → ∃ m', m' < m ∧ W (i + 1) m' H') ∧ ∀ x H', (Itl K a).yld i H x H' → gName j x (wipe σ vs) H' fun σ2 H2 => wipe σ2 vs = wipe σ vs ∧ tt σ2 H2 fun b H3 =>
        if b = true then te σ2 H3 fun y H4 => ∃ acc, H4 D = some (.lst acc) ∧ acc.length < sizeLine ∧ Nx (upd H4 D (.lst (acc ++ [y]))) else Nx H3) := by
  refine lc_it (walk_list (K := K) (a := a) (xs := ns.map V.int)) (fun i H' => Ex H1 H' ∧ H' D = some (.lst (((ns.take i).filter p).map V.int))) ⟨Evl.Ex.new hD, upd_same⟩ (fun i H' _ z => Evl.ex_l z.1 hx) ?_ ?_
  · rintro i v HX H3 hi ⟨e3, d3⟩ ⟨rfl, hv⟩
    obtain ⟨n, hn, rfl⟩ := mapI_at hv
    rw [List.length_map] at hi
    refine ⟨hw _, ?_⟩
    show tt ((wipe σ vs).set j (some (.int n))) _ _
    refine ht n _ (List.mem_of_getElem? hn) e3 _ fun H4 e4 => ?_
    rw [take_snoc hn, List.filter_append, List.filter_cons]
    cases q : p n with
    | true =>
      refine iteT (he n _ _ ⟨_, e4 _ _ d3, ?_, Evl.Ex.mut (e3.trans e4) hD, ?_⟩)
      · rw [List.length_map]
        refine Nat.lt_of_le_of_lt (List.length_filter_le _ _) ?_
        rw [List.length_take]
        exact Nat.lt_of_le_of_lt (show _ ≤ 1000 by omega) (by decide)
      · rw [upd_same, List.map_append]
        rfl
    | false =>
      refine iteF ⟨e3.trans e4, ?_⟩
      rw [e4 _ _ d3]
      simp
  · rintro H' ⟨e', d'⟩
    rw [List.length_map, List.take_length] at d'
    exact k H' e' d'
end My
namespace My
open PySem PySem.Spec PyProof.Rows L2
/-- a walk within a comprehension -/
theorem piK {X : Cx} {K : PySem.W.Frag} {r : PySem.W.Frag → TE → TI} {tg it : Expr} {tl : TE} (h : X.K = K) (p : PI X tg it (r X.K tl)) : PI X tg it (r K tl) := h ▸ p
/-- lists of lists of ints, sorted -/
def srtL (L : List (List Int)) : List (List Int) := L.mergeSort (PySem.W.dataLe false (eL PyData.int))
theorem rowsLe : PySem.W.dataLe false (eL PyData.int : List Int → PyData) = fun p q => decide (p ≤ q) := PySem.W.dataLe_rows (β := List Int) id
theorem srtL_congr {A B : List (List Int)} (h : A.Perm B) : srtL A = srtL B := by
  unfold srtL
  rw [rowsLe]
  have pw : ∀ L : List (List Int), (L.mergeSort (fun p q => decide (p ≤ q))).Pairwise (· ≤ ·) := fun L => by
    have := List.pairwise_mergeSort (le := fun (p q : List Int) => decide (p ≤ q)) (fun a b c h1 h2 => by simp at *; exact List.le_trans h1 h2) (fun a b => by simpa using List.le_total a b) L
    exact this.imp fun h => by simpa using h
  exact List.Perm.eq_of_pairwise (le := (· ≤ ·)) (fun a b _ _ h1 h2 => List.le_antisymm h1 h2) (pw A) (pw B) ((List.mergeSort_perm _ _).trans (h.trans (List.mergeSort_perm _ _).symm))
theorem srtL_len (L : List (List Int)) : (srtL L).length = L.length := List.length_mergeSort ..
theorem inD_mem {α : Type} [DecidableEq α] {e : α → PyData} {n : Nat} (g : Good e n) (x : α) (L : List α) : ((L.map e).any fun d => PyData.eqv d (e x)) = decide (x ∈ L) := by
  rw [List.any_map, Bool.eq_iff_iff, List.any_eq_true, decide_eq_true_eq]
  constructor
  · rintro ⟨y, hy, h⟩
    have h : PyData.eqv (e y) (e x) = true := h
    rw [g.eqv] at h
    exact of_decide_eq_true h ▸ hy
  · intro h
    exact ⟨x, h, by show PyData.eqv (e x) (e x) = true; rw [g.eqv]; exact decide_eq_true rfl⟩
theorem alikeLs (cs : List (List Int)) : PySem.W.AllAlike (cs.map (eL PyData.int)) := PySem.W.AllAlike.of fun b b' => by
  unfold eL
  rw [PySem.W.alike]
  exact PySem.W.alike_ints b b'
theorem sortLs (cs : List (List Int)) : PySem.W.Sortable (cs.map (eL PyData.int)) := PySem.W.Sortable.others fun b => ⟨(by intro z; cases z), (by intro xs z; cases z)⟩
theorem depLs (cs : List (List Int)) : ∀ d ∈ cs.map (eL PyData.int), d.depth ≤ 60 := fun d hd => by
  obtain ⟨c, _, rfl⟩ := List.mem_map.mp hd
  have := (goodL goodI).dep c
  omega
end My
set_option Elab.async false
set_option linter.all false
set_option maxRecDepth 100000
set_option maxHeartbeats 4000000
/-! enumerate of a tuple. -/
namespace My
open PySem PySem.Spec PyProof.Rows L2
set_option maxHeartbeats 1000000 in
theorem meets_enumerate_newT (l : Addr) (items : Array Value) :
    Meets (Builtin.«enumerate.__new__» ⟨[.type "enumerate", .ref l], []⟩) (fun _ R s => s.heap.IsTuple l items ∧
      R (.ok (.ret (.ref (s.heap.push { cls := .type "tuple_iterator", data := .fields #[.ref l, .int 0 0] }).objs.size)))
        { s with heap := (s.heap.push { cls := .type "tuple_iterator", data := .fields #[.ref l, .int 0 0] }).push { cls := .type "enumerate", data := .fields #[.none, .bool false, .ref s.heap.objs.size, rawInt 0, .none, .none] } }) :=
  .of_wp fun prog w A R s h => by
    obtain ⟨hp, g, d, tk, os⟩ := s; obtain ⟨h1, h⟩ := h
    have hsub := sub_enumerate
    have q1 : ∀ {A' : Around} {E : Value → Shared → Prop} {Q : Value → Shared → Prop}, Q (.ref hp.objs.size) ⟨hp.push { cls := .type "tuple_iterator", data := .fields #[.ref l, .int 0 0] }, g, d, tk, os⟩ → wpAny (model prog w) A' (pyIter (.ref l)) Q E ⟨hp, g, d, tk, os⟩ :=
      fun q => (begins_tuple l items).iter prog w _ _ ⟨hp, g, d, tk, os⟩ _ h1 q
    wp_walk using q1
    refine wpAny_stack_any fun st => wpAny_pure ?_
    split
    · rename_i c _ _ _ _ _
      cases (c == Value.type "enumerate")
      · wp_walk using q1
        exact ⟨_, rfl, h⟩
      · wp_walk using q1
        exact ⟨_, rfl, h⟩
    · wp_walk using q1
      exact ⟨_, rfl, h⟩
section
variable {prog : Program} {w : World} {A : Around} {E : Value → Shared → Prop} {s : Shared}
theorem call_enumerate_tuple {l : Addr} {items : Array Value} {Q : Value → Shared → Prop} (hL : s.heap.IsTuple l items)
    (h : ∀ h', IsEnum h' (s.heap.objs.size + 1) s.heap.objs.size 0 .none → h'.IsTupleIter s.heap.objs.size l 0 → h'.objs.size = s.heap.objs.size + 2 →
      (∀ b o, s.heap.get? b = some o → h'.get? b = some o) → Q (.ref (s.heap.objs.size + 1)) { s with heap := h' }) :
    wpAny (model prog w) A (call (.type "enumerate") [.ref l]) Q E s := by
  refine callType_new F.called_enumerate (by decide) (F.typeCall_enumerate_1 _) (F.newCall_enumerate_1 _) (fun obj => F.args_object_init_2 obj _) F.entry_enumerate_new
    (meets_enumerate_newT l items) ⟨hL, ?_⟩
  have hz : (s.heap.push { cls := .type "tuple_iterator", data := .fields #[.ref l, .int 0 0] }).objs.size = s.heap.objs.size + 1 := Heap.size_push ..
  show _ ∧ _
  rw [hz]
  have he : IsEnum ((s.heap.push { cls := .type "tuple_iterator", data := .fields #[.ref l, .int 0 0] }).push
      { cls := .type "enumerate", data := .fields #[.none, .bool false, .ref s.heap.objs.size, rawInt 0, .none, .none] }) (s.heap.objs.size + 1) s.heap.objs.size 0 .none := by
    have := Heap.get?_push_size (s.heap.push { cls := .type "tuple_iterator", data := .fields #[.ref l, .int 0 0] })
      (o := { cls := .type "enumerate", data := .fields #[.none, .bool false, .ref s.heap.objs.size, rawInt 0, .none, .none] }) rfl
    rw [hz] at this; exact this
  refine ⟨⟨_, he, rfl⟩, h _ he ⟨_, Heap.get?_push_of_some _ (Heap.get?_push_size _ rfl), rfl, rfl⟩ (by rw [Heap.size_push, hz]) fun b o x => Heap.get?_push_of_some _ (Heap.get?_push_of_some _ x)⟩
end
/-- the tuple at a as it stands at each turn, each item in a new pair -/
def Itet (K : PySem.W.Frag) (a : Addr) : It :=
  ⟨fun i H => ∃ (xs : List V) (x : V), SqT K H a xs ∧ xs[i]? = some x, fun i H v H' => ∃ T x, v = .ref T ∧ H T = none ∧ H' = upd H T (.tup [.int (i : Nat), x]) ∧ ∀ xs, SqT K H a xs → xs[i]? = some x, fun i H => ∃ xs : List V, SqT K H a xs ∧ xs.length = i⟩
theorem tup_apart {h : Heap} {e it a : Addr} {items : Array Value} {n : Int} {old : Value} {i : Nat} (he : IsEnum h e it n old) (hit : h.IsTupleIter it a i) (p : h.IsTuple a items) : a ≠ it ∧ a ≠ e := by
  obtain ⟨o, ho, hc, _⟩ := p
  obtain ⟨o2, ho2, hc2, _⟩ := hit
  refine ⟨fun z => ?_, fun z => ?_⟩
  · subst z
    rw [ho] at ho2
    cases ho2
    rw [hc] at hc2
    exact absurd hc2 (by decide)
  · subst z
    have he : h.get? a = _ := he
    rw [ho] at he
    cases he
    exact absurd (show Value.type "enumerate" = Value.type "tuple" from hc) (by decide)
theorem turn_enumT {P : Program} {w : World} {K : PySem.W.Frag} {elts : List Expr} {kk : Nat} {tpos : Pos} (a e it : Addr) :
    Turn P w K (.Tuple elts kk tpos) (Itet K a) [e, it] e (fun i h => (∃ old, IsEnum h e it ((i : Nat) : Int) old) ∧ h.IsTupleIter it a i ∧ e ≠ it) where
  mem := by simp
  obj := fun i h st b hb => by
    obtain ⟨⟨old, he⟩, ⟨o, ho, hc, hd⟩, _⟩ := st
    have e' : b = e ∨ b = it := by simpa using hb
    rcases e' with z | z
    · rw [z]; exact ⟨_, he, fun v q => nomatch q⟩
    · rw [z]; exact ⟨o, ho, fun v q => by rw [hd] at q; cases q⟩
  keep := fun i h h' st k => let ⟨⟨old, he⟩, hi, hne⟩ := st; ⟨⟨old, k e (by simp) _ he⟩, hi.at fun o q => k it (by simp) o q, hne⟩
  item := by
    intro X hP hw hK hc i pins s σ H E I hf st hg
    subst hP hw hK
    obtain ⟨⟨old, he⟩, hit, hne⟩ := st
    obtain ⟨xs, x, hq, hx⟩ := hg
    obtain ⟨its, rv, p, hz⟩ := I.tuple hq
    obtain ⟨u, hu, ru⟩ := rv.get hx
    have hel : e < s.heap.objs.size := Heap.lt_size he
    have hil : it < s.heap.objs.size := by obtain ⟨_, q, _⟩ := hit; exact Heap.lt_size q
    obtain ⟨na1, na2⟩ := tup_apart he hit p
    have hlt : i < its.toArray.size := by
      rw [List.size_toArray]
      exact (List.getElem?_eq_some_iff.mp hu).1
    refine wpAny_pyNext_enum_itemC (Draws.tuple (show X.A.in1.handled = none from I.ok.hd hc) it a na1 its.toArray) he ⟨hit, p⟩ hlt hne (by simp [hne, na2.symm]) fun x' h' tk hP ho hst' hT hsz hk => ?_
    have ex : x' = u := by
      have hP : its.toArray[i]? = some x' := hP
      simp only [List.getElem?_toArray] at hP
      rw [hu] at hP
      exact (Option.some.inj hP).symm
    subst ex
    refine ⟨_, rfl, wpAny_letOwnedTupleGo_enum (s := { s with heap := h', toks := tk + 1 }) ho fun h'' he' sb => ?_⟩
    have hT2 : h''.get? s.heap.objs.size = some { cls := .type "tuple", data := .seq #[.int i tk, x'] } := (sb.2 _ (Nat.ne_of_gt hel)).trans hT
    have new : ObjOk X.prog X.w (upd H s.heap.objs.size (.tup [.int (i : Nat), x])) h'' s.heap.objs.size (.tup [.int (i : Nat), x]) :=
      ⟨by show 2 ≤ sizeLine; decide, [.int i tk, x'], .cons ⟨_, rfl⟩ (.cons ru .nil), ⟨_, hT2, rfl, _, rfl⟩⟩
    have I1 : Inv X pins σ (upd H s.heap.objs.size (.tup [.int (i : Nat), x])) { s with heap := h'', toks := tk + 1 } :=
      I.turnedNew (ch := [e, it]) (fun b ob hb q => (sb.2 b (fun z => hb (by simp [z]))).trans (hk b ob (fun z => hb (by simp [z])) (fun z => hb (by simp [z])) q)) hf (Nat.le_refl _) new
    refine ⟨.ref s.heap.objs.size, _, I1, rfl, ⟨_, x, rfl, I.hok.fresh (Nat.le_refl _), rfl, fun ys hy => by rw [I.tuple_inj hy hq]; exact hx⟩, ⟨⟨x', ?_⟩, hst'.1.at fun o q => (sb.2 it (Ne.symm hne)).trans q, hne⟩, fun b hb => ?_⟩
    · have e1 : ((i + 1 : Nat) : Int) = (i : Int) + 1 := by omega
      rw [e1]; exact he'
    · have hb' : b < s.heap.objs.size := by
        have e' : b = e ∨ b = it := by simpa using hb
        rcases e' with z | z
        · rw [z]; exact hel
        · rw [z]; exact hil
      rw [upd_ne (Nat.ne_of_lt hb')]
      exact (hf b hb).1
  done := by
    intro X hP hw hK hc i pins s σ H E I hf st hg
    subst hP hw hK
    obtain ⟨⟨old, he⟩, hit, hne⟩ := st
    obtain ⟨xs, hq, hx⟩ := hg
    obtain ⟨its, rv, p, hz⟩ := I.tuple hq
    obtain ⟨f0, f1, f2, f3, f4, f5⟩ := hf it (by simp)
    have hl := rv.length
    obtain ⟨na1, na2⟩ := tup_apart he hit p
    have en : i = its.toArray.size := by
      rw [List.size_toArray]
      omega
    subst en
    exact wpAny_pyNext_enum_endD (Draws.tuple (show X.A.in1.handled = none from I.ok.hd hc) it a na1 its.toArray) he ⟨hit, p⟩ fun h' eb => ⟨rfl, I.turned (t' := s.toks) (fun b o hb q => eb b o hb q) f0 f1 f3 f4 f5⟩
  self := fun A i s Q E st h => let ⟨⟨_, he⟩, _⟩ := st; wpAny_pyIter_enum he h
def iEnumT (K : PySem.W.Frag) (ta : TA) : TI := fun σ H R => ta σ H fun vs H1 => ∃ a xs, vs = [.ref a] ∧ SqT K H1 a xs ∧ R (Itet K a) H1
theorem pi_enumT {X : Cx} {e : Expr} {ta : TA} {p pos tpos : Pos} {elts : List Expr} {kk : Nat} (hg : Gl X "enumerate") (hm : X.mg "enumerate" = none) (ha : PA X [e] ta) (hs : starEach [e] X.env = [(false, eval e X.env)] := by rfl) :
    PI X (.Tuple elts kk tpos) (.Call (.Name "enumerate" p) [e] [] pos) (iEnumT X.K ta) := by
  refine ⟨fun pins s σ H R I h => ?_⟩
  refine Call_ (ld_blt I hg hm boot_enumerate (PyProof.Rows.callWith_type1 (thn (ha.run pos pins s σ H _ I h) fun us s1 ⟨vs, H1, I1, r1, q1⟩ => ?_) hs rfl))
  obtain ⟨a, xs, ex, hq, q⟩ := q1
  subst ex
  cases r1 with
  | cons r rr =>
    cases rr
    cases r
    obtain ⟨its, rv, p', hz⟩ := I1.tuple hq
    refine call_enumerate_tuple p' fun h' he hit hsz hk => wpAny_pyIter_enum he ?_
    have I2 : Inv X pins σ H1 { s1 with heap := h' } := I1.kept (t' := s1.toks) hk
    refine ⟨s1.heap.objs.size + 1, [s1.heap.objs.size + 1, s1.heap.objs.size], _, _, H1, rfl, I2, turn_enumT a (s1.heap.objs.size + 1) s1.heap.objs.size, ⟨⟨.none, he⟩, hit, Nat.succ_ne_self _⟩, fun b hb => ?_, q⟩
    have e' : b = s1.heap.objs.size + 1 ∨ b = s1.heap.objs.size := by simpa using hb
    have hle : s1.heap.objs.size ≤ b := by
      rcases e' with z | z
      · rw [z]; exact Nat.le_add_right _ _
      · rw [z]; exact Nat.le_refl _
    exact I1.fpOk hle (I1.hok.fresh hle)
theorem walk_enumT {K : PySem.W.Frag} {a : Addr} {xs : List V} : Walk (Itet K a) xs.length (fun H => SqT K H a xs) (YPair (fun i => some (.int (i : Nat))) (fun i => xs[i]?)) := by
  refine ⟨fun i _ hi q => ⟨xs, xs[i], q, by simp [hi]⟩, fun _ q => ⟨xs, q, rfl⟩, fun i H v H' _ q y => ?_⟩
  obtain ⟨T, x, h1, h2, h3, h4⟩ := y
  exact ⟨T, .int (i : Nat), x, h1, h2, h3, rfl, h4 xs q⟩
end My
set_option Elab.async false
set_option linter.all false
set_option maxRecDepth 100000
set_option maxHeartbeats 4000000
/-! len(set(xs)) of a list of ints with doubles. -/
namespace My
open PySem PySem.Spec PyProof.Rows L2
/-- so many different ones -/
def Diff (ns : List Int) (c : Nat) : Prop := ∃ ms : List Int, ms.Nodup ∧ (∀ k, k ∈ ms ↔ k ∈ ns) ∧ ms.length = c
def tLenSetG (K : PySem.W.Frag) (ta : TE) : TE := fun σ H Q => ta σ H fun x H1 => ∃ (l : Addr) (ns : List Int), x = V.ref l ∧ SqL K H1 l (ns.map V.int) ∧ ns.length ≤ 2000 ∧ ∀ c : Nat, Diff ns c → Q (.int (c : Nat)) H1
theorem pe_lenSetG {X : Cx} {a : Expr} {ta : TE} {p p2 q pos : Pos} (hg : Gl X "len") (hm : X.mg "len" = none) (hg2 : Gl X "set") (hm2 : X.mg "set" = none) (ha : PE X a ta) (hc : X.calm = true := by rfl)
    (na : starEach [a] X.env = (false, eval a X.env) :: starEach [] X.env := by rfl) : PE X (.Call (.Name "len" p) [.Call (.Name "set" p2) [a] [] q] [] pos) (tLenSetG X.K ta) := by
  refine ⟨fun pins s σ H Q I h => ?_⟩
  refine Call_ (ld_blt I hg hm boot_len ?_)
  refine PyProof.Rows.callWith_builtin1 (PyProof.Rows.args_cons ?_ rfl) rfl rfl
  refine Call_ (ld_blt I hg2 hm2 PyProof.Rows.boot_set ?_)
  refine PyProof.Rows.callWith_type1 (PyProof.Rows.args_cons (thn (ha.run pins s σ H _ I h) fun v s1 ⟨x, H1, I1, r1, q1⟩ => PyProof.Rows.args_nil ?_) na) na rfl
  obtain ⟨l, ns, rfl, hq, hz, q1⟩ := q1
  cases r1
  obtain ⟨its, r, pl, _⟩ := I1.list hq
  refine call_set_lst ns (I1.ok.hd hc) pl.isList (by simpa using r.ints) (by unfold scanBound; omega) fun h1 tk c hS hc1 hk => ?_
  refine PyProof.Rows.args_nil ?_
  obtain ⟨o, es, ep, t, ho, hex, hd, _, hnd, hS2, _, hf, hn, _⟩ := hS
  have I2 : Inv X pins σ H1 { s1 with heap := h1, toks := tk } := I1.kept hk
  refine call_len_set ho hex hd hf (by rw [hn]; omega) ⟨.int c, H1, I2.tok _, ⟨_, by rw [hn]⟩, q1 c ⟨es.toList.map keyOf, hnd, fun k => ?_, ?_⟩⟩
  · rw [← hS2 k]
    simp
  · rw [List.length_map, Array.length_toList]
    exact hn
theorem diff_nodup {ns : List Int} {c : Nat} (h : Diff ns c) : c = ns.length ↔ ns.Nodup := by
  obtain ⟨ms, h1, h2, h3⟩ := h
  subst h3
  constructor
  · intro e
    -- ms is nodup, the same members, as long: ns has no doubles
    have : ∀ {ns ms : List Int}, ms.Nodup → (∀ k, k ∈ ms → k ∈ ns) → ns.length ≤ ms.length → ns.Nodup := fun {ns} => by
      induction ns with
      | nil => intro ms _ _ _; exact List.nodup_nil
      | cons x ns ih =>
        intro ms hm hs hl
        have h0 : x ∈ ms ∧ x ∉ ns := by
          by_cases a : x ∈ ms
          · refine ⟨a, fun b => ?_⟩
            have := nodup_len (l := ms) (m := ns) hm fun k hk => by
              rcases List.mem_cons.mp (hs k hk) with z | z
              · rw [z]; exact b
              · exact z
            rw [List.length_cons] at hl
            omega
          · exfalso
            have := nodup_len (l := ms) (m := ns) hm fun k hk => by
              rcases List.mem_cons.mp (hs k hk) with z | z
              · rw [z] at hk; exact absurd hk a
              · exact z
            rw [List.length_cons] at hl
            omega
        refine List.nodup_cons.mpr ⟨h0.2, ih (ms := ms.erase x) (hm.erase x) (fun k hk => ?_) ?_⟩
        · have hk' := List.mem_of_mem_erase hk
          rcases List.mem_cons.mp (hs k hk') with z | z
          · rw [z] at hk
            exact absurd hk (fun y => (List.Nodup.mem_erase_iff hm).mp y |>.1 rfl)
          · exact z
        · rw [List.length_erase_of_mem h0.1]
          rw [List.length_cons] at hl
          omega
    exact this h1 (fun k hk => (h2 k).mp hk) (by omega)
  · intro hn
    exact Nat.le_antisymm (nodup_len h1 fun k hk => (h2 k).mp hk) (nodup_len hn fun k hk => (h2 k).mpr hk)
end My
set_option Elab.async false
set_option linter.all false
set_option maxRecDepth 100000
set_option maxHeartbeats 4000000
/-! further comprehensions over lists: any target; kept objects. -/
namespace My
open PySem PySem.Spec PyProof.Rows L2
/-- no tests, any target, the values known -/
theorem lc_mapG {K : PySem.W.Frag} {a : Addr} {xs ys : List V} {g : TG} {te : TE} {vs : List Nat} {σ : L2.St} {H1 : Hp} {D : Addr} {Qd : Hp → Prop} (hx : SqL K H1 a xs) (hD : H1 D = none) (hl : ys.length = xs.length) (hz : xs.length ≤ sizeLine)
    (he : ∀ (i : Nat) x y H', Ex H1 H' → xs[i]? = some x → ys[i]? = some y → ∀ (N : VK) (Z : Hp → Prop), (∀ H2, Ex H' H2 → N y H2) → g x (wipe σ vs) H' fun σ2 H2 => wipe σ2 vs = wipe σ vs ∧ tYes σ2 H2 fun b H3 => if b = true then te σ2 H3 N else Z H3)
    (k : ∀ H', Ex H1 H' → H' D = some (.lst ys) → Qd H') :
    ∃ W : Nat → Nat → Hp → Prop, (∃ m, W 0 m (upd H1 D (.lst []))) ∧ ∀ i m H, W i m H →
      ((Itl K a).stop i H ∧ Qd H) ∨ ((Itl K a).go i H ∧ ∃ Nx : Hp → Prop, (∀ H', Nx H' → ∃ m', m' < m ∧ W (i + 1) m' H') ∧ ∀ x H', (Itl K a).yld i H x H' → g x (wipe σ vs) H' fun σ2 H2 => wipe σ2 vs = wipe σ vs ∧ tYes σ2 H2 fun b H3 =>
        if b = true then te σ2 H3 fun y H4 => ∃ acc, H4 D = some (.lst acc) ∧ acc.length < sizeLine ∧ Nx (upd H4 D (.lst (acc ++ [y]))) else Nx H3) := by
  refine lc_objL (R := fun _ v (y : V) => v = y) hx hD hl hz (fun _ _ _ _ r _ => r) (fun i x y H' e _ hx hy N Z kN => he i x y H' e hx hy N Z fun H2 e2 => kN y H2 e2 rfl) fun H' us e d r => k H' e ?_
  have : us = ys := by
    refine List.ext_getElem? fun i => ?_
    cases z : us[i]? with
    | none => rw [List.getElem?_eq_none (by rw [← r.1]; exact List.getElem?_eq_none_iff.mp z)]
    | some v =>
      obtain ⟨y, h1, h2⟩ := r.get z
      rw [h1, h2]
  rw [← this]
  exact d
/-- the items of which p holds, themselves -/
theorem lc_filtO {α : Type} {K : PySem.W.Frag} {a : Addr} {xs : List V} {ys : List α} {R : V → α → Prop} {p : α → Bool} {j : Nat} {tt : TT} {te : TE} {vs : List Nat} {σ : L2.St} {H1 : Hp} {D : Addr} {Qd : Hp → Prop} (hx : SqL K H1 a xs) (hR : AllR R xs ys) (hD : H1 D = none) (hz : xs.length ≤ 1000)
    (hw : ∀ x, wipe ((wipe σ vs).set j (some x)) vs = wipe σ vs)
    (ht : ∀ v y H', y ∈ ys → R v y → Ex H1 H' → ∀ Z : Bool → Hp → Prop, (∀ H2, Ex H' H2 → Z (p y) H2) → tt ((wipe σ vs).set j (some v)) H' Z)
    (he : ∀ v H' (N : VK), N v H' → te ((wipe σ vs).set j (some v)) H' N)
    (k : ∀ H' us, Ex H1 H' → H' D = some (.lst us) → AllR R us (ys.filter p) → Qd H') :
    ∃ W : Nat → Nat → Hp → Prop, (∃ m, W 0 m (upd H1 D (.lst []))) ∧ ∀ i m H, W i m H →
      ((Itl K a).stop i H ∧ Qd H) ∨ ((Itl K a).go i H ∧ ∃ Nx : Hp → Prop, (∀ H', Nx H' → ∃ m', m' < m ∧ W (i + 1) m' H') ∧ ∀ x H', (Itl K a).yld i H x H' → gName j x (wipe σ vs) H' fun σ2 H2 => wipe σ2 vs = wipe σ vs ∧ tt σ2 H2 fun b H3 =>
        if b = true then te σ2 H3 fun y H4 => ∃ acc, H4 D = some (.lst acc) ∧ acc.length < sizeLine ∧ Nx (upd H4 D (.lst (acc ++ [y]))) else Nx H3) := by
  refine lc_it (walk_list (K := K) (a := a) (xs := xs)) (fun i H' => ∃ us, Ex H1 H' ∧ H' D = some (.lst us) ∧ us.length ≤ i ∧ AllR R us ((ys.take i).filter p)) ⟨[], Evl.Ex.new hD, upd_same, Nat.le_refl _, AllR.nil⟩ (fun i H' _ ⟨_, e, _⟩ => Evl.ex_l e hx) ?_ ?_
  · rintro i v HX H3 hi ⟨us, e3, d3, l3, a3⟩ ⟨rfl, hv⟩
    obtain ⟨y, hy, r⟩ := hR.get hv
    refine ⟨hw _, ?_⟩
    show tt ((wipe σ vs).set j (some v)) _ _
    refine ht v y _ (List.mem_of_getElem? hy) r e3 _ fun H4 e4 => ?_
    rw [take_snoc hy, List.filter_append, List.filter_cons]
    cases q : p y with
    | true =>
      refine iteT (he v _ _ ⟨us, e4 _ _ d3, Nat.lt_of_le_of_lt (show _ ≤ 1000 by omega) (by decide), us ++ [v], Evl.Ex.mut (e3.trans e4) hD, upd_same, by simp; omega, ?_⟩)
      exact AllR.snoc a3 r
    | false =>
      refine iteF ⟨us, e3.trans e4, e4 _ _ d3, by omega, ?_⟩
      simpa using a3
  · rintro H' ⟨us, e', d', l', a'⟩
    rw [List.take_of_length_le (by rw [← hR.1]; exact Nat.le_refl _)] at a'
    exact k H' us e' d' a'
/-- ints of a range, with a test -/
theorem lc_filtR {lo : Int} {n : Nat} {p : Int → Bool} {j : Nat} {tt : TT} {te : TE} {vs : List Nat} {σ : L2.St} {H1 : Hp} {D : Addr} {Qd : Hp → Prop} (hD : H1 D = none) (hz : n ≤ 1000)
    (hw : ∀ x, wipe ((wipe σ vs).set j (some x)) vs = wipe σ vs)
    (ht : ∀ (i : Nat) H', i < n → Ex H1 H' → ∀ Z : Bool → Hp → Prop, (∀ H2, Ex H' H2 → Z (p (lo + i)) H2) → tt ((wipe σ vs).set j (some (.int (lo + i)))) H' Z)
    (he : ∀ v H' (N : VK), N v H' → te ((wipe σ vs).set j (some v)) H' N)
    (k : ∀ H', Ex H1 H' → H' D = some (.lst ((((List.range n).map fun i => lo + ((i : Nat) : Int)).filter p).map V.int)) → Qd H') :
    ∃ W : Nat → Nat → Hp → Prop, (∃ m, W 0 m (upd H1 D (.lst []))) ∧ ∀ i m H, W i m H →
      ((Itr lo n).stop i H ∧ Qd H) ∨ ((Itr lo n).go i H ∧ ∃ Nx : Hp → Prop, (∀ H', Nx H' → ∃ m', m' < m ∧ W (i + 1) m' H') ∧ ∀ x H', (Itr lo n).yld i H x H' → gName j x (wipe σ vs) H' fun σ2 H2 => wipe σ2 vs = wipe σ vs ∧ tt σ2 H2 fun b H3 =>
        if b = true then te σ2 H3 fun y H4 => ∃ acc, H4 D = some (.lst acc) ∧ acc.length < sizeLine ∧ Nx (upd H4 D (.lst (acc ++ [y]))) else Nx H3) := by
  refine lc_range (fun i H' => Ex H1 H' ∧ H' D = some (.lst ((((List.range i).map fun i => lo + ((i : Nat) : Int)).filter p).map V.int))) ⟨Evl.Ex.new hD, upd_same⟩ ?_ ?_
  · rintro i H3 hi ⟨e3, d3⟩
    refine ⟨hw _, ?_⟩
    show tt ((wipe σ vs).set j (some (.int (lo + i)))) _ _
    refine ht i _ hi e3 _ fun H4 e4 => ?_
    rw [List.range_succ, List.map_append, List.filter_append, List.map_cons, List.map_nil, List.filter_cons]
    cases q : p (lo + i) with
    | true =>
      refine iteT (he _ _ _ ⟨_, e4 _ _ d3, ?_, Evl.Ex.mut (e3.trans e4) hD, ?_⟩)
      · rw [List.length_map]
        refine Nat.lt_of_le_of_lt (List.length_filter_le _ _) ?_
        rw [List.length_map, List.length_range]
        exact Nat.lt_of_le_of_lt (show _ ≤ 1000 by omega) (by decide)
      · rw [upd_same, List.map_append]
        rfl
    | false =>
      refine iteF ⟨e3.trans e4, ?_⟩
      rw [e4 _ _ d3]
      simp
  · rintro H' ⟨e', d'⟩
    exact k H' e' d'
end My
set_option Elab.async false
set_option linter.all false
set_option maxRecDepth 100000
set_option maxHeartbeats 4000000
/-! displays of lists and tuples all of whose parts are known data. -/
namespace My
open PySem PySem.Spec PyProof.Rows L2
mutual
theorem dpEx {K : PySem.W.Frag} {H H' : Hp} (e : Ex H H') : ∀ {v : V} {d : PyData}, Dp K H v d → Dp K H' v d
  | _, _, .non => .non
  | _, _, .bl b => .bl b
  | _, _, .int i => .int i
  | _, _, .str x => .str x
  | _, _, .lst h a => .lst (Evl.ex_l e h) (dpAllEx e a)
  | _, _, .tup h a => .tup (Evl.ex_t e h) (dpAllEx e a)
theorem dpAllEx {K : PySem.W.Frag} {H H' : Hp} (e : Ex H H') : ∀ {vs : List V} {ds : List PyData}, DpAll K H vs ds → DpAll K H' vs ds
  | _, _, .nil => .nil
  | _, _, .cons h a => .cons (dpEx e h) (dpAllEx e a)
end
theorem dpAll_len {K : PySem.W.Frag} {H : Hp} : ∀ {vs : List V} {ds : List PyData}, DpAll K H vs ds → vs.length = ds.length
  | _, _, .nil => rfl
  | _, _, .cons _ a => by simp [dpAll_len a]
theorem dpAll_app {K : PySem.W.Frag} {H : Hp} : ∀ {vs us : List V} {ds es : List PyData}, DpAll K H vs ds → DpAll K H us es → DpAll K H (vs ++ us) (ds ++ es)
  | _, _, _, _, .nil, b => b
  | _, _, _, _, .cons h a, b => .cons h (dpAll_app a b)
theorem dpAll_at {K : PySem.W.Frag} {H : Hp} : ∀ {vs : List V} {ds : List PyData} (_ : DpAll K H vs ds) {i : Nat} {v : V}, vs[i]? = some v → ∃ d, ds[i]? = some d ∧ Dp K H v d
  | _, _, .nil, i, v, h => by cases h
  | _, _, .cons h a, 0, v, e => by cases e; exact ⟨_, rfl, h⟩
  | _, _, .cons h a, i + 1, v, e => dpAll_at a e
def tLit (K : PySem.W.Frag) (d : PyData) : TE := fun σ H Q => ∀ v H', Ex H H' → Dp K H' v d → Q v H'
def tLits (K : PySem.W.Frag) (ds : List PyData) : TA := fun σ H Q => ∀ vs H', Ex H H' → DpAll K H' vs ds → Q vs H'
section
variable {X : Cx} {e : Expr} {es : List Expr} {d : PyData} {ds : List PyData} {pos : Pos}
theorem pl_int {i : Int} {j : Nat} : PE X (.Constant (.int i) j pos) (tLit X.K (.int i)) := pe_weak pe_int fun σ H Q q => q _ H (Evl.Ex.refl H) (.int i)
theorem pl_bl {b : Bool} {j : Nat} : PE X (.Constant (.bool b) j pos) (tLit X.K (.bool b)) := pe_weak pe_bl fun σ H Q q => q _ H (Evl.Ex.refl H) (.bl b)
theorem pl_non {j : Nat} : PE X (.Constant .none j pos) (tLit X.K .none) := pe_weak pe_non fun σ H Q q => q _ H (Evl.Ex.refl H) .non
theorem pl_str {x : Str} {j : Nat} : PE X (.Constant (.str x) j pos) (tLit X.K (.str x)) := pe_weak pe_str fun σ H Q q => q _ H (Evl.Ex.refl H) (.str x)
theorem pl_neg {i : Int} {j : Nat} {p2 : Pos} : PE X (.UnaryOp .USub (.Constant (.int i) j p2) pos) (tLit X.K (.int (-i))) := pe_weak (pe_un un_neg pe_int) fun σ H Q q => ⟨_, rfl, q _ H (Evl.Ex.refl H) (.int _)⟩
theorem pl_nil : PA X [] (tLits X.K []) := ⟨fun pos pins s σ H Q I q => pa_nil.run pos pins s σ H Q I (q [] H (Evl.Ex.refl H) .nil)⟩
theorem pl_cons (he : PE X e (tLit X.K d)) (hr : PA X es (tLits X.K ds)) (hn : starEach (e :: es) X.env = (false, eval e X.env) :: starEach es X.env := by rfl) : PA X (e :: es) (tLits X.K (d :: ds)) :=
  ⟨fun pos pins s σ H Q I q => (pa_cons he hr hn).run pos pins s σ H Q I fun v H1 e1 d1 => fun vs H2 e2 d2 => q (v :: vs) H2 (e1.trans e2) (.cons (dpEx e2 d1) d2)⟩
theorem pl_lst (h : PA X es (tLits X.K ds)) (hz : ds.length ≤ 1000) : PE X (.List es pos) (tLit X.K (.list ds)) := pe_weak (pe_lstG h) fun σ H Q q => fun vs H1 e1 d1 => ⟨by
  rw [dpAll_len d1]
  exact Nat.le_trans hz (by decide), fun p H2 n2 e2 h2 => q _ H2 (e1.trans e2) (.lst (sqI h2) (dpAllEx e2 d1))⟩
theorem pl_tup {x1 : Nat} (h : PA X es (tLits X.K ds)) (hz : ds.length ≤ 1000) : PE X (.Tuple es x1 pos) (tLit X.K (.tuple ds)) := pe_weak (pe_tupG h) fun σ H Q q => fun vs H1 e1 d1 => ⟨by
  rw [dpAll_len d1]
  exact Nat.le_trans hz (by decide), fun p H2 n2 e2 h2 => q _ H2 (e1.trans e2) (.tup (sqT h2) (dpAllEx e2 d1))⟩
end
end My
set_option Elab.async false
set_option linter.all false
set_option maxRecDepth 100000
set_option maxHeartbeats 4000000
/-! xs[lo::c], c a written number -/
namespace My
open PySem PySem.Spec PyProof.Rows L2
def stepIx (n : Nat) (lo : Option Int) (c : Int) : List Nat := sliceRange (sliceBounds lo none (some c) n).1 (sliceBounds lo none (some c) n).2.1 (sliceBounds lo none (some c) n).2.2
def stepV {α : Type} (xs : List α) (lo : Option Int) (c : Int) : List α := (stepIx xs.length lo c).filterMap (xs[·]?)
theorem vals_pickS {xs : List V} {its : List Value} (r : Vals xs its) : ∀ J : List Nat, Vals (J.filterMap (xs[·]?)) (J.filterMap (its[·]?))
  | [] => .nil
  | j :: J => by
    have ih := vals_pickS r J
    by_cases h : j < xs.length
    · obtain ⟨u, hu, ru⟩ := r.get (List.getElem?_eq_getElem h)
      rw [List.filterMap_cons, List.filterMap_cons, List.getElem?_eq_getElem h, hu]
      exact .cons ru ih
    · have h2 : ¬ j < its.length := by rw [← r.length]; exact h
      rw [List.filterMap_cons, List.filterMap_cons, List.getElem?_eq_none (by omega), List.getElem?_eq_none (by omega)]
      exact ih
theorem stepV_map {α β : Type} (f : α → β) (xs : List α) (lo : Option Int) (c : Int) : stepV (xs.map f) lo c = (stepV xs lo c).map f := by
  unfold stepV
  rw [List.length_map, List.map_filterMap]
  exact congrArg (fun h => List.filterMap h _) (funext fun j => List.getElem?_map)
def tStepG (K : PySem.W.Frag) (te : TE) (tl : TO) (c : Int) : TE := fun σ H Q => te σ H fun x H1 => tl σ H1 fun lo H2 => ∃ a xs, x = .ref a ∧ SqL K H2 a xs ∧ (stepV xs lo c).length ≤ sizeLine ∧ New (.lst (stepV xs lo c)) H2 Q
section
variable {X : Cx}
theorem pe_stepG {e : Expr} {te : TE} {tl : TO} {ol : Option Expr} {c : Int} {k : Nat} {p1 p3 pos : Pos} (hc : c ≠ 0) (he : PE X e te) (hl : PO X ol tl) : PE X (.Subscript e (.Slice ol none (some (.Constant (.int c) k p1)) p3) pos) (tStepG X.K te tl c) := by
  refine ⟨fun pins s σ H Q I h => ?_⟩
  refine Subscript_ (thn (he.run pins s σ H _ I h) fun v s1 ⟨x, H1, I1, r1, q1⟩ => ?_)
  have hst : PO X (some (.Constant (.int c) k p1)) (tPart (tC (.int c))) := po_some pe_int
  refine wpAny_Slice (thn (hl.run pins s1 σ H1 _ I1 q1) fun vl s2 ⟨lo, H2, I2, pl, q2⟩ => ?_)
  obtain ⟨a, xs, ex, hx, hn, q⟩ := q2
  subst ex
  cases r1
  refine thn (po_none.run pins s2 σ H2 (fun o H3 => o = none ∧ H3 = H2) I2 ⟨rfl, rfl⟩) fun vu s3 ⟨u, H3, I3, pu, eu, e3⟩ => ?_
  subst eu e3
  refine thn (hst.run pins s3 σ H3 (fun o H4 => o = some c ∧ H4 = H3) I3 ⟨c, rfl, rfl, rfl⟩) fun vs s4 ⟨o, H4, I4, ps, eo, e4⟩ => ?_
  subst eo e4
  have I5 : Inv X pins σ H4 { s4 with heap := s4.heap.push { cls := .type "slice", data := .fields #[vl, vu, vs] } } := I4.kept (t' := s4.toks) fun b ob q => Heap.get?_push_of_some _ q
  obtain ⟨its, r, ht, hz⟩ := I5.list hx
  have hlen := r.length
  show wpAny (model X.prog X.w) X.A (subscriptTail e (.Slice ol none (some (.Constant (.int c) k p1)) p3) (.ref a) (.ref s4.heap.objs.size)) (EP X pins σ Q) X.xe { s4 with heap := s4.heap.push { cls := .type "slice", data := .fields #[vl, vu, vs] } }
  refine tail_any (ops := [.ref a, .ref s4.heap.objs.size]) ht.isList.typeIs (PySem.slot_list_getitem.lookup) ?_ (by with_unfolding_all rfl)
  refine wpAny_getItem_list_slice ht.isList (Heap.IsSliceOf.new _ vl vu vs) pl pu ps (fun z => hc (Option.some.inj z)) ?_ (by rw [List.size_toArray]; omega)
  have pk : slicePick its.toArray lo none (some c) = (stepV its lo c).toArray := by
    unfold slicePick stepV stepIx
    rw [List.size_toArray]
    congr 1
    exact congrArg (fun h => List.filterMap h _) (funext fun j => by simp)
  rw [pk]
  have rv : Vals (stepV xs lo c) (stepV its lo c) := by
    unfold stepV
    rw [hlen]
    exact vals_pickS r _
  refine ⟨.ref _, _, I5.laid (t' := s4.toks) (o := .lst (stepV xs lo c)) (fun b ob q => Heap.get?_push_of_some _ q) (Nat.le_refl _) ?_, rfl, q.go _ (I5.hok.fresh (Nat.le_refl _))⟩
  exact ⟨hn, _, 0, rv, Heap.get?_push_size _ rfl⟩
end
end My
set_option Elab.async false
set_option linter.all false
set_option maxRecDepth 100000
set_option maxHeartbeats 4000000
/-! d.get(k, x) where k may be None -/
namespace My
open PySem PySem.Spec PyProof.Rows L2
section
variable {X : Cx} {pins : List (Addr × Obj)} {σ : L2.St} {H : Hp} {s : Shared} {a : Addr} {kvs : List (Key × V)} {A : Around} {E : Value → Shared → Prop}
theorem d_get2N {Q : Value → Shared → Prop} {r : Value} (I : Inv X pins σ H s) (e : Rd H a (.dK kvs)) (h : ∀ s', Inv X pins σ H s' → Q r s') :
    wpAny (model X.prog X.w) A (call (.builtin "dict.get") [.ref a, .none, r]) Q E s := by
  obtain ⟨_, hd, vs, _, dd⟩ := dk_rd I.hok e
  obtain ⟨f, hm, hf⟩ := none_map dd
  refine call_meetsIn PySem.F.slot_dict_get dd.typeIs PySem.F.entry_dict_get (PySem.F.args_dict_get_3 _ _ _) (meets_dict_get_default (noneKind X.prog X.w) a (show (noneKind X.prog X.w).is none .none = true from rfl) hd r) ⟨_, hm, ?_⟩
  rw [hf]
  exact h _ (I.tok _)
/-- v is what d.get(y, z) gives -/
def GetV (H : Hp) (a : Addr) (y z v : V) : Prop := (∃ o, DGet H a y o ∧ v = o.getD z) ∨ (∃ kvs, y = .non ∧ Rd H a (.dK kvs) ∧ v = z)
def tDGet2N (td ty tx : TE) : TE := fun σ H Q => td σ H fun x H1 => ∃ a, x = .ref a ∧ IsD H1 a ∧ ty σ H1 fun y H2 => tx σ H2 fun z H3 => ∃ v, GetV H3 a y z v ∧ Q v H3
end
section
variable {X : Cx} {o e f : Expr} {apos cpos : Pos} {td ty tx : TE}
theorem pe_dget2N (hu : X.A.units + 1 < cLine) (ho : PE X o td) (he : PE X e ty) (hf : PE X f tx) (m : M2 X o "get" apos e f cpos) : PE X (.Call (.Attribute o "get" apos) [e, f] [] cpos) (tDGet2N td ty tx) := by
  refine ⟨fun pins s σ H Q I h => ?_⟩
  refine wpAny_Call_method m.base m.few m.line PySem.F.plainAttrs_dict PySem.F.slot_dict_get PySem.F.type_dict_get (thn (ho.run pins s σ H _ I h) fun u s1 ⟨x, H1, I1, rx, a, ex, d, q1⟩ => ?_)
  subst ex
  obtain rfl : u = Value.ref a := rx
  obtain ⟨t1, t2, _⟩ := isD_at I1 d
  refine ⟨t1, t2, ?_⟩
  rw [m.trees]
  refine Calls.callWith_builtin rfl (Calls.evalArgs_plain (Calls.spliced_cons (thn (he.run pins s1 σ H1 _ I1 q1) fun iv s2 ⟨y, H2, I2, ry, q2⟩ =>
    Calls.spliced_cons (thn (hf.run pins s2 σ H2 _ I2 q2) fun fv s3 ⟨z, H3, I3, rz, q3⟩ => Calls.spliced_nil ?_))))
  obtain ⟨v, gv, q3⟩ := q3
  rcases gv with ⟨ov, g, rfl⟩ | ⟨kvs, ey, g, rfl⟩
  · exact d_get2 hu I3 g ry rz fun w' s4 I4 rw' => ⟨_, H3, I4, rw', q3⟩
  · subst ey
    obtain rfl : iv = Value.none := ry
    exact d_get2N I3 g fun s4 I4 => ⟨_, H3, I4, rz, q3⟩
end
end My
set_option Elab.async false
set_option linter.all false
set_option maxRecDepth 100000
set_option maxHeartbeats 4000000
/-! Dicts whose keys are tuples of any depth (ints, texts, bools, None, tuples of these). -/
namespace My
open PySem PySem.Spec PyProof.Rows L2
/-! ### keys -/
mutual
/-- the thing x is the key k -/
inductive NIs (β : Bool) (K : PySem.W.Frag) (H : Hp) : NestedKey → V → Prop
  | none : NIs β K H .none .non
  | num (i : Int) : NIs β K H (.num i) (.int i)
  | bl (hb : β = true) (b : Bool) : NIs β K H (.num (if b = true then 1 else 0)) (.bl b)
  | text (x : Str) : NIs β K H (.text x) (.str x)
  | tup {a : Addr} {xs : List V} {ks : List NestedKey} : SqT K H a xs → NAll β K H ks xs → NIs β K H (.tup ks) (.ref a)
inductive NAll (β : Bool) (K : PySem.W.Frag) (H : Hp) : List NestedKey → List V → Prop
  | nil : NAll β K H [] []
  | cons {k : NestedKey} {v : V} {ks : List NestedKey} {vs : List V} : NIs β K H k v → NAll β K H ks vs → NAll β K H (k :: ks) (v :: vs)
end
variable {β : Bool}
/-- at j stands no tuple -/
def NTup (H : Hp) (j : Addr) : Prop := ∀ o, H j = some o → (∀ xs, o ≠ .tup xs) ∧ ∀ ob u, o ≠ .frz ob u
theorem NTup.lst {H : Hp} {j : Addr} {xs : List V} (h : H j = some (.lst xs)) : NTup H j := fun o e => by
  rw [h] at e
  cases e
  exact ⟨(fun _ z => nomatch z), (fun _ _ z => nomatch z)⟩
theorem sqT_keep {K : PySem.W.Frag} {H H' : Hp} {j a : Addr} {xs : List V} (e : Exj j H H') (n : NTup H j) : SqT K H a xs → SqT K H' a xs
  | .inl (.inl h) => .inl (.inl (e a _ (fun z => (n _ (z ▸ h)).1 _ rfl) h))
  | .inl (.inr ⟨o, h⟩) => .inl (.inr ⟨o, e a _ (fun z => (n _ (z ▸ h)).2 _ _ rfl) h⟩)
  | .inr h => .inr h
mutual
theorem NIs.map {K : PySem.W.Frag} {H H' : Hp} (e : ∀ a xs, SqT K H a xs → SqT K H' a xs) : ∀ (k : NestedKey) (v : V), NIs β K H k v → NIs β K H' k v
  | .none, _, h => by
    cases h
    exact .none
  | .num _, _, h => by
    cases h with
    | num => exact .num _
    | bl hb b => exact .bl hb b
  | .text _, _, h => by
    cases h
    exact .text _
  | .tup ks, _, h => by
    cases h with
    | tup h1 h2 => exact .tup (e _ _ h1) (NAll.map e ks _ h2)
theorem NAll.map {K : PySem.W.Frag} {H H' : Hp} (e : ∀ a xs, SqT K H a xs → SqT K H' a xs) : ∀ (ks : List NestedKey) (vs : List V), NAll β K H ks vs → NAll β K H' ks vs
  | [], _, h => by
    cases h
    exact .nil
  | k :: ks, _, h => by
    cases h with
    | cons h1 h2 => exact .cons (NIs.map e k _ h1) (NAll.map e ks _ h2)
end
theorem NIs.keep {K : PySem.W.Frag} {H H' : Hp} {j : Addr} {k : NestedKey} {v : V} (e : Exj j H H') (n : NTup H j) (h : NIs β K H k v) : NIs β K H' k v := NIs.map (fun _ _ => sqT_keep e n) k v h
theorem sqT_exN {K : PySem.W.Frag} {H H' : Hp} {a : Addr} {xs : List V} (e : Ex H H') : SqT K H a xs → SqT K H' a xs
  | .inl (.inl h) => .inl (.inl (e _ _ h))
  | .inl (.inr ⟨o, h⟩) => .inl (.inr ⟨o, e _ _ h⟩)
  | .inr h => .inr h
theorem NIs.ex {K : PySem.W.Frag} {H H' : Hp} {k : NestedKey} {v : V} (e : Ex H H') (h : NIs β K H k v) : NIs β K H' k v := NIs.map (fun _ _ => sqT_exN e) k v h
theorem NAll.ex {K : PySem.W.Frag} {H H' : Hp} {k : List NestedKey} {v : List V} (e : Ex H H') (h : NAll β K H k v) : NAll β K H' k v := NAll.map (fun _ _ => sqT_exN e) k v h
mutual
theorem NIs.up {K : PySem.W.Frag} {H : Hp} : ∀ (k : NestedKey) (v : V), NIs β K H k v → NIs true K H k v
  | .none, _, h => by
    cases h
    exact .none
  | .num _, _, h => by
    cases h with
    | num => exact .num _
    | bl hb b => exact .bl rfl b
  | .text _, _, h => by
    cases h
    exact .text _
  | .tup ks, _, h => by
    cases h with
    | tup h1 h2 => exact .tup h1 (NAll.up ks _ h2)
theorem NAll.up {K : PySem.W.Frag} {H : Hp} : ∀ (ks : List NestedKey) (vs : List V), NAll β K H ks vs → NAll true K H ks vs
  | [], _, h => by
    cases h
    exact .nil
  | k :: ks, _, h => by
    cases h with
    | cons h1 h2 => exact .cons (NIs.up k _ h1) (NAll.up ks _ h2)
end
/-- without bools the things are told by the keys -/
theorem NAll.ints_eq {K : PySem.W.Frag} {H : Hp} : ∀ (ns : List Int) (vs : List V), NAll false K H (ns.map NestedKey.num) vs → vs = ns.map V.int
  | [], _, h => by
    cases h
    rfl
  | n :: ns, _, h => by
    cases h with
    | cons h1 h2 =>
      cases h1 with
      | num => rw [NAll.ints_eq ns _ h2]; rfl
      | bl hb b => exact Bool.noConfusion hb
theorem NAll.ints {K : PySem.W.Frag} {H : Hp} : ∀ ns : List Int, NAll β K H (ns.map NestedKey.num) (ns.map V.int)
  | [] => .nil
  | n :: ns => .cons (.num n) (NAll.ints ns)
theorem NAll.bools {K : PySem.W.Frag} {H : Hp} : ∀ bs : List Bool, NAll true K H (bs.map fun b => NestedKey.num (if b = true then 1 else 0)) (bs.map V.bl)
  | [] => .nil
  | b :: bs => .cons (.bl rfl b) (NAll.bools bs)
section
variable {X : Cx} {pins : List (Addr × Obj)} {σ : L2.St} {H : Hp} {s : Shared}
mutual
theorem nis_is (I : Inv X pins σ H s) : ∀ (k : NestedKey) (x : V) (u : Value), NIs β X.K H k x → RelV x u → NestedIs s.heap k u
  | .none, _, u, h, r => by
    cases h
    cases (show u = Value.none from r)
    exact .none
  | .num _, _, u, h, r => by
    cases h with
    | num =>
      obtain ⟨t, e⟩ := (show ∃ t, u = Value.int _ t from r)
      subst e
      exact .int _ t
    | bl hb b =>
      cases (show u = Value.bool b from r)
      exact .bool rfl
  | .text x, _, u, h, r => by
    cases h
    obtain ⟨t, e⟩ := (show ∃ t, u = Value.str x t from r)
    subst e
    exact .text x t
  | .tup ks, _, u, h, r => by
    cases h with
    | @tup a xs _ h1 h2 =>
      cases (show u = Value.ref a from r)
      obtain ⟨its, rv, ⟨o, e1, e2, n, e3⟩, _⟩ := I.tuple h1
      exact .tup e1 e2 e3 (nall_is I ks xs its h2 rv)
theorem nall_is (I : Inv X pins σ H s) : ∀ (ks : List NestedKey) (xs : List V) (us : List Value), NAll β X.K H ks xs → Vals xs us → NestedAll s.heap ks us
  | [], _, us, h, r => by
    cases h
    cases r
    exact .nil
  | k :: ks, _, us, h, r => by
    cases h with
    | @cons _ v _ vs h1 h2 =>
      cases r with
      | @cons _ u _ us r1 r2 => exact .cons (nis_is I k v u h1 r1) (nall_is I ks vs us h2 r2)
end
end
/-! ### dicts -/
def entN (w : World) (x : NestedKey × Addr × Value) : DictEntry := ⟨x.1.hash w, .ref x.2.1, x.2.2⟩
/-- the object at a is a dict of the entries xs -/
def DNO (w : World) (a : Addr) (xs : List (NestedKey × Addr × Value)) : HO := .ext fun h => ∃ o es ep, h.get? a = some o ∧ o.ExactDict ∧ o.data = .dict es ep ∧ es.toList = xs.map (entN w)
abbrev KN (β : Bool) (K : PySem.W.Frag) (H : Hp) : List (NestedKey × V) → List (NestedKey × Addr × Value) → Prop := Paired fun p q => p.1 = q.1 ∧ (NIs β K H p.1 (.ref q.2.1) ∧ p.1.depth ≤ 8) ∧ RelV p.2 q.2.2
/-- at a stands a dict of these keys and values -/
def IsDN (β : Bool) (K : PySem.W.Frag) (w : World) (H : Hp) (a : Addr) (kvs : List (NestedKey × V)) : Prop := ∃ xs, H a = some (DNO w a xs) ∧ KN β K H kvs xs ∧ kvs.length ≤ sizeLine ∧ (a == sysModules) = false ∧ (xs.map (·.1)).Nodup
/-- .. it may be locked: to be read -/
def RdDN (β : Bool) (K : PySem.W.Frag) (w : World) (H : Hp) (a : Addr) (kvs : List (NestedKey × V)) : Prop := ∃ xs, Rd H a (DNO w a xs) ∧ KN β K H kvs xs ∧ kvs.length ≤ sizeLine ∧ (a == sysModules) = false ∧ (xs.map (·.1)).Nodup
theorem KN.up {K : PySem.W.Frag} {H : Hp} {kvs : List (NestedKey × V)} {xs : List (NestedKey × Addr × Value)} (r : KN β K H kvs xs) : KN true K H kvs xs := Paired.mapP r fun _ _ z => ⟨z.1, ⟨NIs.up _ _ z.2.1.1, z.2.1.2⟩, z.2.2⟩
theorem IsDN.rd {K : PySem.W.Frag} {w : World} {H : Hp} {a : Addr} {kvs : List (NestedKey × V)} : IsDN β K w H a kvs → RdDN true K w H a kvs
  | ⟨xs, h, r, h3⟩ => ⟨xs, .inl h, r.up, h3⟩
theorem IsDN.rdB {K : PySem.W.Frag} {w : World} {H : Hp} {a : Addr} {kvs : List (NestedKey × V)} : IsDN β K w H a kvs → RdDN β K w H a kvs
  | ⟨xs, h, r⟩ => ⟨xs, .inl h, r⟩
theorem RdDN.up {K : PySem.W.Frag} {w : World} {H : Hp} {a : Addr} {kvs : List (NestedKey × V)} : RdDN β K w H a kvs → RdDN true K w H a kvs
  | ⟨xs, h, r, h3⟩ => ⟨xs, h, r.up, h3⟩
theorem RdDN.ex {K : PySem.W.Frag} {w : World} {H H' : Hp} {a : Addr} {kvs : List (NestedKey × V)} (e : Ex H H') (h : RdDN β K w H a kvs) (k : ∀ ks xs, KN β K H ks xs → KN β K H' ks xs) : RdDN β K w H' a kvs := by
  obtain ⟨xs, h1, h2, h3⟩ := h
  refine ⟨xs, ?_, k _ _ h2, h3⟩
  rcases h1 with h1 | ⟨o, h1⟩
  · exact .inl (e _ _ h1)
  · exact .inr ⟨o, e _ _ h1⟩
theorem KN.val {K : PySem.W.Frag} {H : Hp} {kvs : List (NestedKey × V)} {xs : List (NestedKey × Addr × Value)} (r : KN β K H kvs xs) (k : NestedKey) : RelO (valV kvs k) ((atKey xs k).map (·.2)) := by
  induction r with
  | nil => exact True.intro
  | @cons p q ps qs h t ih =>
    obtain ⟨h1, _, h2⟩ := h
    by_cases e : p.1 = k
    · have e' : q.1 = k := h1.symm.trans e
      have b : atKey (q :: qs) k = some q.2 := by simp [atKey, List.find?_cons, e']
      rw [valV_pos e, b]
      exact h2
    · have e' : ¬ q.1 = k := fun z => e (h1.trans z)
      have b : atKey (q :: qs) k = atKey qs k := by simp [atKey, List.find?_cons, e']
      rw [valV_neg e, b]
      exact ih
theorem KN.repl {K : PySem.W.Frag} {H : Hp} {kvs : List (NestedKey × V)} {xs : List (NestedKey × Addr × Value)} (r : KN β K H kvs xs) (k : NestedKey) {y : V} {u : Value} (ry : RelV y u) : KN β K H (kvs.map fun kv => if kv.1 = k then (kv.1, y) else kv) (xs.map (putAt k u)) := by
  induction r with
  | nil => exact .nil
  | @cons p q ps qs h t ih =>
    rw [List.map_cons, List.map_cons]
    refine .cons ?_ ih
    obtain ⟨h1, h2, h3⟩ := h
    unfold putAt
    by_cases e : p.1 = k
    · rw [if_pos e, if_pos (h1.symm.trans e)]
      exact ⟨h1, h2, ry⟩
    · rw [if_neg e, if_neg (fun z => e (h1.trans z))]
      exact ⟨h1, h2, h3⟩
theorem KN.put {K : PySem.W.Frag} {H : Hp} {kvs : List (NestedKey × V)} {xs : List (NestedKey × Addr × Value)} (r : KN β K H kvs xs) (k : NestedKey) {b : Addr} {y : V} {u : Value} (hb : NIs β K H k (.ref b) ∧ k.depth ≤ 8) (ry : RelV y u) : KN β K H (putK kvs k y) (storedH xs k b u) := by
  have e : (kvs.any fun kv => decide (kv.1 = k)) = (atKey xs k).isSome := by
    rw [valV_any, (r.val k).isSome_eq, Option.isSome_map]
  unfold putK storedH
  rw [e]
  by_cases q : (atKey xs k).isSome = true
  · rw [if_pos q, if_pos q]
    exact r.repl k ry
  · rw [if_neg q, if_neg q]
    exact Paired.snoc r ⟨rfl, hb, ry⟩
theorem KN.map {K : PySem.W.Frag} {H H' : Hp} {kvs : List (NestedKey × V)} {xs : List (NestedKey × Addr × Value)} (e : ∀ a ys, SqT K H a ys → SqT K H' a ys) (r : KN β K H kvs xs) : KN β K H' kvs xs :=
  Paired.mapP r fun _ _ z => ⟨z.1, ⟨NIs.map e _ _ z.2.1.1, z.2.1.2⟩, z.2.2⟩
theorem KN.keys {K : PySem.W.Frag} {H : Hp} {kvs : List (NestedKey × V)} {xs : List (NestedKey × Addr × Value)} (r : KN β K H kvs xs) : kvs.map (·.1) = xs.map (·.1) := by
  induction r with
  | nil => rfl
  | cons h t ih => rw [List.map_cons, List.map_cons, ih, h.1]
theorem IsDN.keep {K : PySem.W.Frag} {w : World} {H H' : Hp} {a j : Addr} {kvs : List (NestedKey × V)} (e : Exj j H H') (n : NTup H j) (ha : a ≠ j) : IsDN β K w H a kvs → IsDN β K w H' a kvs
  | ⟨xs, h1, h2, h3⟩ => ⟨xs, e _ _ ha h1, h2.map fun _ _ => sqT_keep e n, h3⟩
theorem IsDN.ex {K : PySem.W.Frag} {w : World} {H H' : Hp} {a : Addr} {kvs : List (NestedKey × V)} (e : Ex H H') : IsDN β K w H a kvs → IsDN β K w H' a kvs
  | ⟨xs, h1, h2, h3⟩ => ⟨xs, e _ _ h1, h2.map fun _ _ => sqT_exN e, h3⟩
theorem IsDN.ntup {K : PySem.W.Frag} {w : World} {H : Hp} {a : Addr} {kvs : List (NestedKey × V)} : IsDN β K w H a kvs → NTup H a
  | ⟨xs, h1, _⟩ => fun o e => by
    rw [h1] at e
    cases e
    exact ⟨(fun _ z => nomatch z), (fun _ _ z => nomatch z)⟩
theorem IsDN.there {K : PySem.W.Frag} {w : World} {H : Hp} {a : Addr} {kvs : List (NestedKey × V)} : IsDN β K w H a kvs → ∃ o, H a = some o
  | ⟨_, h, _⟩ => ⟨_, h⟩
theorem IsDN.ne_lst {K : PySem.W.Frag} {w : World} {H : Hp} {a l : Addr} {kvs : List (NestedKey × V)} {xs : List V} (d : IsDN β K w H a kvs) (h : H l = some (.lst xs)) : l ≠ a := fun z => by
  obtain ⟨ys, e, _⟩ := d
  rw [← z, h] at e
  cases e
theorem IsDN.ne_tup {K : PySem.W.Frag} {w : World} {H : Hp} {a l : Addr} {kvs : List (NestedKey × V)} {xs : List V} (d : IsDN β K w H a kvs) (h : H l = some (.tup xs)) : l ≠ a := fun z => by
  obtain ⟨ys, e, _⟩ := d
  rw [← z, h] at e
  cases e
theorem IsDN.nodup {K : PySem.W.Frag} {w : World} {H : Hp} {a : Addr} {kvs : List (NestedKey × V)} : IsDN β K w H a kvs → (kvs.map (·.1)).Nodup
  | ⟨_, _, r, _, _, n⟩ => by
    rw [KN.keys r]
    exact n
section
variable {X : Cx} {pins : List (Addr × Obj)} {σ : L2.St} {H : Hp} {s : Shared} {a b : Addr} {kvs : List (NestedKey × V)} {k : NestedKey} {v : V} {r : Value} {A : Around} {E : Value → Shared → Prop}
theorem dn_at (I : Inv X pins σ H s) (d : RdDN β X.K X.w H a kvs) : kvs.length ≤ sizeLine ∧ (a == sysModules) = false ∧ ∃ xs, Rd H a (DNO X.w a xs) ∧ KN β X.K H kvs xs ∧ s.heap.DictOfH (nestedKind X.prog X.w) a xs := by
  obtain ⟨xs, h1, h2, h3, h4, h5⟩ := d
  obtain ⟨⟨o, es, ep, e1, e2, e3, e4⟩, _⟩ := (show ObjOk X.prog X.w H s.heap a (DNO X.w a xs) from h1.ok I.hok)
  refine ⟨h3, h4, xs, h1, h2, o, es, ep, e1, e2, e3, e4, fun x hx => ?_, h5⟩
  have all : ∀ {l : List (NestedKey × V)} {m : List (NestedKey × Addr × Value)}, KN β X.K H l m → ∀ x ∈ m, (nestedKind X.prog X.w).is s.heap x.1 x.2.1 := by
    intro l m q
    induction q with
    | nil => intro x hx; exact nomatch hx
    | @cons p q ps qs hq t ih =>
      intro x hx
      rcases List.mem_cons.mp hx with e | hx
      · subst e
        refine ⟨nis_is I _ (.ref x.2.1) _ (by rw [← hq.1]; exact hq.2.1.1) rfl, ?_⟩
        rw [← hq.1]
        exact hq.2.1.2
      · exact ih x hx
  exact all h2 x hx
theorem dn_key (I : Inv X pins σ H s) (h : NIs β X.K H k (.ref b)) (hd : k.depth ≤ 8) : (nestedKind X.prog X.w).is s.heap k b := ⟨nis_is I _ (.ref b) _ h rfl, hd⟩
theorem dn_obj {P : Program} {w : World} {H : Hp} {h : Heap} {xs : List (NestedKey × Addr × Value)} (d : h.DictOfH (nestedKind P w) a xs) : ObjOk P w H h a (DNO w a xs) := by
  obtain ⟨o, es, ep, e1, e2, e3, e4, _⟩ := d
  refine ⟨⟨o, es, ep, e1, e2, e3, e4⟩, ⟨o, e1⟩, ?_⟩
  rintro h1 h2 ⟨o, es, ep, e1, e2, e3, e4⟩ st
  exact ⟨o, es, ep, st _ e1, e2, e3, e4⟩
/-- d[k], there -/
theorem n_getItem {Q : Value → Shared → Prop} (hu : A.units + 9 < cLine) (I : Inv X pins σ H s) (d : RdDN β X.K X.w H a kvs) (hk : NIs β X.K H k (.ref b)) (hd : k.depth ≤ 8) (l : valV kvs k = some v) (h : ∀ w' s', Inv X pins σ H s' → RelV v w' → Q w' s') :
    wpAny (model X.prog X.w) A (getItem (.ref a) (.ref b)) Q E s := by
  obtain ⟨z, hs, xs, _, rel, dd⟩ := dn_at I d
  obtain ⟨w', hw, rw'⟩ := RelO.some_of (v := v) (o := (atKey xs k).map (·.2)) (by rw [← l]; exact rel.val k)
  obtain ⟨p, hp, hp2⟩ := Option.map_eq_some_iff.mp hw
  refine wpAny_getItem_heap (show A.in1.units + 8 < cLine by show A.units + 1 + 8 < cLine; omega) (dn_key I hk hd) dd hp ?_
  rw [hp2]
  exact h w' _ (I.tok _) rw'
theorem n_in {Q : Value → Shared → Prop} (hu : A.units + 9 < cLine) (I : Inv X pins σ H s) (d : RdDN β X.K X.w H a kvs) (hk : NIs β X.K H k (.ref b)) (hd : k.depth ≤ 8) (h : ∀ s', Inv X pins σ H s' → Q (.bool (valV kvs k).isSome) s') :
    wpAny (model X.prog X.w) A (compareOp .In (.ref b) (.ref a)) Q E s := by
  obtain ⟨z, hs, xs, _, rel, dd⟩ := dn_at I d
  refine wpAny_in_heap (show A.in1.units + 8 < cLine by show A.units + 1 + 8 < cLine; omega) (dn_key I hk hd) hs dd ?_
  have q := (rel.val k).isSome_eq
  rw [Option.isSome_map] at q
  rw [← q]
  exact h _ (I.tok _)
theorem n_notIn {Q : Value → Shared → Prop} (hu : A.units + 9 < cLine) (I : Inv X pins σ H s) (d : RdDN β X.K X.w H a kvs) (hk : NIs β X.K H k (.ref b)) (hd : k.depth ≤ 8) (h : ∀ s', Inv X pins σ H s' → Q (.bool (!(valV kvs k).isSome)) s') :
    wpAny (model X.prog X.w) A (compareOp .NotIn (.ref b) (.ref a)) Q E s := by
  obtain ⟨z, hs, xs, _, rel, dd⟩ := dn_at I d
  refine wpAny_notIn_heap (show A.in1.units + 8 < cLine by show A.units + 1 + 8 < cLine; omega) (dn_key I hk hd) hs dd ?_
  have q := (rel.val k).isSome_eq
  rw [Option.isSome_map] at q
  rw [← q]
  exact h _ (I.tok _)
/-- d.get(k, x) -/
theorem n_getOr {x : V} {u : Value} {Q : Value → Shared → Prop} (hu : A.units + 9 < cLine) (I : Inv X pins σ H s) (d : RdDN β X.K X.w H a kvs) (hk : NIs β X.K H k (.ref b)) (hd : k.depth ≤ 8) (rx : RelV x u) (h : ∀ w' s', Inv X pins σ H s' → RelV ((valV kvs k).getD x) w' → Q w' s') :
    wpAny (model X.prog X.w) A (call (.builtin "dict.get") [.ref a, .ref b, u]) Q E s := by
  obtain ⟨z, hs, xs, _, rel, dd⟩ := dn_at I d
  have e : valueAt (pairsH xs) k = (atKey xs k).map (·.2) := valueAt_pairsH xs k
  refine getOr_keyed (kvs := pairsH xs) (show A.in1.units + 8 < cLine by show A.units + 1 + 8 < cLine; omega) (dn_key I hk hd) hs ⟨xs, dd, rfl⟩ ?_
  rw [e]
  exact h _ _ (I.tok _) ((rel.val k).getD rx)
/-- d[k] = v -/
theorem n_setItem {Q : Unit → Shared → Prop} (hu : A.units + 9 < cLine) (I : Inv X pins σ H s) (d : IsDN β X.K X.w H a kvs) (hk : NIs β X.K H k (.ref b)) (hd : k.depth ≤ 8) (rv : RelV v r) (hl : kvs.length < sizeLine)
    (h : ∀ H' s', Inv X pins σ H' s' → Exj a H H' → IsDN β X.K X.w H' a (putK kvs k v) → Q () s') : wpAny (model X.prog X.w) A (setItem (.ref a) (.ref b) r) Q E s := by
  obtain ⟨z, hs, xs, rea, rel, dd⟩ := dn_at I d.rdB
  have ea : Mut (H a) := by
    obtain ⟨_, e, _⟩ := d
    rw [e]
    exact True.intro
  have hz : xs.length ≤ sizeLine := by rw [← Paired.length rel]; exact z
  have hl' : (putK kvs k v).length ≤ sizeLine := by have := length_putK kvs k v; omega
  refine wpAny_setItem_heap (hsz := hz) (show A.in1.units + 8 < cLine by show A.units + 1 + 8 < cLine; omega) (dn_key I hk hd) dd fun h' dd' hs' => ?_
  have hq : ∃ q, h'.get? a = some q := let ⟨q, _, _, hq, _⟩ := dd'; ⟨q, hq⟩
  have ex : Exj a H (L2.upd H a (DNO X.w a (storedH xs k b r))) := (Exj.refl _ _).upd
  have nt := d.ntup
  refine h _ _ (d_write I ea hs' hq (dn_obj dd')) ex ⟨_, upd_same, (rel.put k ⟨hk, hd⟩ rv).map fun _ _ => sqT_keep ex nt, hl', hs, ?_⟩
  obtain ⟨_, _, _, _, _, _, _, _, n⟩ := dd'
  exact n
end
/-! ### readings and rules -/
def tNGet (K : PySem.W.Frag) (w : World) (td ty : TE) : TE := fun σ H Q => td σ H fun x H1 => ty σ H1 fun y H2 => ∃ a b kvs k v, x = .ref a ∧ y = .ref b ∧ RdDN true K w H2 a kvs ∧ NIs true K H2 k (.ref b) ∧ k.depth ≤ 8 ∧ valV kvs k = some v ∧ Q v H2
def tNIn (K : PySem.W.Frag) (w : World) (ty td : TE) : TE := fun σ H Q => ty σ H fun y H1 => td σ H1 fun x H2 => ∃ a b kvs k, x = .ref a ∧ y = .ref b ∧ RdDN true K w H2 a kvs ∧ NIs true K H2 k (.ref b) ∧ k.depth ≤ 8 ∧ Q (.bl (valV kvs k).isSome) H2
def tNNotIn (K : PySem.W.Frag) (w : World) (ty td : TE) : TE := fun σ H Q => ty σ H fun y H1 => td σ H1 fun x H2 => ∃ a b kvs k, x = .ref a ∧ y = .ref b ∧ RdDN true K w H2 a kvs ∧ NIs true K H2 k (.ref b) ∧ k.depth ≤ 8 ∧ Q (.bl (!(valV kvs k).isSome)) H2
def sNPut (K : PySem.W.Frag) (w : World) (td ty tv : TE) : TS := fun D σ H => tv σ H fun v H1 => td σ H1 fun x H2 => ty σ H2 fun y H3 => ∃ a b kvs k β, x = .ref a ∧ y = .ref b ∧ IsDN β K w H3 a kvs ∧ NIs β K H3 k (.ref b) ∧ k.depth ≤ 8 ∧ kvs.length < sizeLine ∧
  ∀ H4, Exj a H3 H4 → IsDN β K w H4 a (putK kvs k v) → D.nx σ H4
def tNNew (K : PySem.W.Frag) (w : World) : TE := fun _ H Q => ∀ p H', H p = none → Ex H H' → (∀ β, IsDN β K w H' p []) → Q (.ref p) H'
section
variable {X : Cx} {o i e value : Expr} {pos pos' tpos : Pos} {td ty tv : TE}
theorem RdDN.typeIs {pins : List (Addr × Obj)} {σ : L2.St} {H : Hp} {s : Shared} {a : Addr} {kvs : List (NestedKey × V)} (I : Inv X pins σ H s) (d : RdDN β X.K X.w H a kvs) : s.TypeIs (.ref a) "dict" := by
  obtain ⟨_, _, xs, _, _, dd⟩ := dn_at I d
  exact dd.typeIs
theorem pe_nget (hu : X.A.units + 64 < cLine) (ho : PE X o td) (hi : PE X i ty) (hs : NoSl i) : PE X (.Subscript o i pos) (tNGet X.K X.w td ty) := by
  refine ⟨fun pins s σ H Q I h => ?_⟩
  refine subD_of PySem.F.slot_dict_getitem.lookup hs (thn (ho.run pins s σ H _ I h) fun u s1 ⟨x, H1, I1, rx, q1⟩ => thn (hi.run pins s1 σ H1 _ I1 q1) fun iv s2 ⟨y, H2, I2, ry, a, b, kvs, k, v, ex, ey, d, hk, hd, l, q2⟩ => ?_)
  subst ex ey
  obtain rfl : u = Value.ref a := rx
  obtain rfl : iv = Value.ref b := ry
  exact ⟨d.typeIs I2, n_getItem (by omega) I2 d hk hd l fun w' s3 I3 rw' => ⟨v, H2, I3, rw', q2⟩⟩
theorem pc_nin (hu : X.A.units + 64 < cLine) (hi : PE X i ty) (ho : PE X o td) : PC X .In i o (tNIn X.K X.w ty td) := by
  refine ⟨fun pins s σ H Q I h => ?_⟩
  refine thn (hi.run pins s σ H _ I h) fun iv s1 ⟨y, H1, I1, ry, q1⟩ => thn (ho.run pins s1 σ H1 _ I1 q1) fun u s2 ⟨x, H2, I2, rx, a, b, kvs, k, ex, ey, d, hk, hd, q2⟩ => ?_
  subst ex ey
  obtain rfl : u = Value.ref a := rx
  obtain rfl : iv = Value.ref b := ry
  exact n_in (by omega) I2 d hk hd fun s3 I3 => ⟨.bl _, H2, I3, rfl, q2⟩
theorem pc_nnotin (hu : X.A.units + 64 < cLine) (hi : PE X i ty) (ho : PE X o td) : PC X .NotIn i o (tNNotIn X.K X.w ty td) := by
  refine ⟨fun pins s σ H Q I h => ?_⟩
  refine thn (hi.run pins s σ H _ I h) fun iv s1 ⟨y, H1, I1, ry, q1⟩ => thn (ho.run pins s1 σ H1 _ I1 q1) fun u s2 ⟨x, H2, I2, rx, a, b, kvs, k, ex, ey, d, hk, hd, q2⟩ => ?_
  subst ex ey
  obtain rfl : u = Value.ref a := rx
  obtain rfl : iv = Value.ref b := ry
  exact n_notIn (by omega) I2 d hk hd fun s3 I3 => ⟨.bl _, H2, I3, rfl, q2⟩
theorem ps_nput (hu : X.A.units + 64 < cLine) (ho : PE X o td) (hi : PE X i ty) (hv : PE X value tv) (hs : swapsWith value (some (.Subscript o i pos')) pos.line X.env = pure false) :
    PS X (.Assign [.Subscript o i pos'] value pos) (sNPut X.K X.w td ty tv) := by
  refine ⟨fun pins s σ H D I h => ?_⟩
  refine wpAny_Assign_Subscript (thn (hv.run pins s σ H _ I h) fun r s1 ⟨v, H1, I1, rv, q1⟩ => thn (ho.run pins s1 σ H1 _ I1 q1) fun u s2 ⟨x, H2, I2, rx, q2⟩ => thn (hi.run pins s2 σ H2 _ I2 q2) fun iv s3 ⟨y, H3, I3, ry, a, b, kvs, k, β, ex, ey, d, hk, hd, hl, q3⟩ => ?_) hs
  subst ex ey
  obtain rfl : u = Value.ref a := rx
  obtain rfl : iv = Value.ref b := ry
  exact n_setItem (by omega) I3 d hk hd rv hl fun H4 s4 I4 e4 d4 => ⟨σ, H4, I4, q3 H4 e4 d4⟩
theorem pe_nnew : PE X (.Dict [] [] pos) (tNNew X.K X.w) := by
  refine ⟨fun pins s σ H Q I h => ?_⟩
  have hp := I.hok.fresh (Nat.le_refl s.heap.objs.size)
  have hb : ((s.heap.objs.size : Addr) == sysModules) = false := beq_eq_false_iff_ne.mpr (Ne.symm (Nat.ne_of_lt I.big))
  have dd : (s.heap.push { cls := .type "dict", data := .dict #[] }).DictOfH (nestedKind X.prog X.w) s.heap.objs.size [] := Heap.DictOfH.new s.heap
  have I1 := I.laid (a := s.heap.objs.size) (o := DNO X.w s.heap.objs.size []) (t' := s.toks) (fun _ _ q => Heap.get?_push_of_some _ q) (Nat.le_refl _) (dn_obj dd)
  exact wpAny_Dict_empty ⟨.ref s.heap.objs.size, _, I1, rfl, h _ _ hp (Evl.Ex.new hp) fun β => ⟨[], upd_same, .nil, Nat.zero_le _, hb, List.nodup_nil⟩⟩
def tNGet2 (K : PySem.W.Frag) (w : World) (td ty tx : TE) : TE := fun σ H Q => td σ H fun x H1 => ∃ a, x = .ref a ∧ (∃ kvs, RdDN true K w H1 a kvs) ∧ ty σ H1 fun y H2 => tx σ H2 fun z H3 => ∃ kvs k b, y = .ref b ∧ RdDN true K w H3 a kvs ∧ NIs true K H3 k (.ref b) ∧ k.depth ≤ 8 ∧ Q ((valV kvs k).getD z) H3
/-- d.get(k, x) -/
theorem pe_nget2 {f : Expr} {tx : TE} {apos cpos : Pos} (hu : X.A.units + 64 < cLine) (ho : PE X o td) (he : PE X e ty) (hf : PE X f tx) (m : M2 X o "get" apos e f cpos) : PE X (.Call (.Attribute o "get" apos) [e, f] [] cpos) (tNGet2 X.K X.w td ty tx) := by
  refine ⟨fun pins s σ H Q I h => ?_⟩
  refine wpAny_Call_method m.base m.few m.line PySem.F.plainAttrs_dict PySem.F.slot_dict_get PySem.F.type_dict_get (thn (ho.run pins s σ H _ I h) fun u s1 ⟨x, H1, I1, rx, a, ex, ⟨kvs0, d0⟩, q1⟩ => ?_)
  subst ex
  obtain rfl : u = Value.ref a := rx
  refine ⟨d0.typeIs I1, fun b q => ?_, ?_⟩
  · cases q
    obtain ⟨_, _, _, _, _, ob, _, _, h1, h2, _⟩ := dn_at I1 d0
    exact ⟨ob, h1, h2.2.1⟩
  rw [m.trees]
  refine Calls.callWith_builtin rfl (Calls.evalArgs_plain (Calls.spliced_cons (thn (he.run pins s1 σ H1 _ I1 q1) fun iv s2 ⟨y, H2, I2, ry, q2⟩ =>
    Calls.spliced_cons (thn (hf.run pins s2 σ H2 _ I2 q2) fun fv s3 ⟨z, H3, I3, rz, q3⟩ => Calls.spliced_nil ?_))))
  obtain ⟨kvs, k, b, ey, d, hk, hd, q3⟩ := q3
  subst ey
  obtain rfl : iv = Value.ref b := ry
  exact n_getOr (by omega) I3 d hk hd rz fun w' s4 I4 rw' => ⟨_, H3, I4, rw', q3⟩
def rLenN (K : PySem.W.Frag) (w : World) : List V → Hp → VK → Prop := fun xs H Q => ∃ (p : Addr) (kvs : List (NestedKey × V)), xs = [.ref p] ∧ RdDN true K w H p kvs ∧ Q (.int ((kvs.length : Nat) : Int)) H
theorem call_lenN : CallR X (.builtin "len") (rLenN X.K X.w) := by
  intro pins s σ H xs us Q I r h
  obtain ⟨p, kvs, rfl, hp, q⟩ := h
  obtain ⟨u, rfl, rx⟩ := vals1 r
  obtain rfl : u = .ref p := rx
  obtain ⟨z, hd, ys, _, rel, dd⟩ := dn_at I hp
  have hl : kvs.length = ys.length := Paired.length rel
  refine call_len_dictH hd dd (by rw [← hl]; rw [sizeLine_eq] at z; omega) ?_
  rw [← hl]
  exact ⟨.int ((kvs.length : Nat) : Int), H, I.tok _, ⟨_, rfl⟩, q⟩
theorem dict_pairsN {prog : Program} {w : World} {A : Around} {E : Value → Shared → Prop} {s : Shared} {env : Env} {keys : List (Option Expr)} {values : List Expr} {pos : Pos} {pairs : List (Sem Value × Sem Value)} {Q : Value → Shared → Prop} (hu : (nestedKind prog w).room A)
    (hshape : (evalEachOpt keys env).zip ((evalEach values env).map fun v => do let x ← v; standAt pos; pure x) = pairs.map fun p => (some p.1, p.2)) (h0 : pairs ≠ []) (hlen : pairs.length ≤ 15)
    (h : wpAny (model prog w) A (evalPairs pairs) (fun vs s₁ => ∃ ps, CarriesH (nestedKind prog w) s₁.heap vs ps ∧ s₁.heap.DictOfH (nestedKind prog w) s.heap.objs.size [] ∧
      ∀ h' tk, h'.DictOfH (nestedKind prog w) s.heap.objs.size (storedAllH [] ps) → Heap.SameBut s.heap.objs.size s₁.heap h' → Q (.ref s.heap.objs.size) { s₁ with heap := h', toks := tk }) E
      { s with heap := s.heap.push { cls := .type "dict", data := .dict #[] } }) :
    wpAny (model prog w) A (eval (.Dict keys values pos) env) Q E s := by
  rw [arm_eval_Dict, hshape, dictDisplay_pairs pairs h0 (by omega)]
  exact wpAny_bind (wpAny_standAt (wpAny_bind (wpAny_subDictH (knd := nestedKind prog w) (Q := fun d s' => wpAny (model prog w) A (pure (Value.ref d)) Q E s') hu hlen
    (wpAny_mono h (fun vs s₁ h₁ => by obtain ⟨ps, hc, hm, hq⟩ := h₁; exact ⟨ps, hc, hm, fun h' tk a b => wpAny_pure (hq h' tk a b)⟩) fun _ _ e => e))))
/-- {k: v} -/
def tNDisp1 (K : PySem.W.Frag) (w : World) (tk tv : TE) : TE := fun σ H Q => ∀ p H1, H p = none → Ex H H1 → H1 p = some (DNO w p []) → tk σ H1 fun x H2 => tv σ H2 fun y H3 => H3 p = some (DNO w p []) ∧ ∃ k b β, x = .ref b ∧ NIs β K H3 k (.ref b) ∧ k.depth ≤ 8 ∧ ∀ H4, Exj p H3 H4 → IsDN β K w H4 p [(k, y)] → Q (.ref p) H4
theorem pe_ndisp1 {k v : Expr} {tk tv : TE} (hu : X.A.units + 64 < cLine) (hk : PE X k tk) (hv : PE X v tv) : PE X (.Dict [some k] [v] pos) (tNDisp1 X.K X.w tk tv) := by
  refine ⟨fun pins s σ H Q I q => ?_⟩
  have hn := I.hok.fresh (Nat.le_refl s.heap.objs.size)
  have hb : ((s.heap.objs.size : Addr) == sysModules) = false := beq_eq_false_iff_ne.mpr (Ne.symm (Nat.ne_of_lt I.big))
  have dd0 : (s.heap.push { cls := .type "dict", data := .dict #[] }).DictOfH (nestedKind X.prog X.w) s.heap.objs.size [] := Heap.DictOfH.new s.heap
  have I1 := I.laid (a := s.heap.objs.size) (o := DNO X.w s.heap.objs.size []) (t' := s.toks) (fun _ _ q => Heap.get?_push_of_some _ q) (Nat.le_refl _) (dn_obj dd0)
  refine dict_pairsN (pairs := pairTrees [some k] [v] X.env pos) (show X.A.units + 8 < cLine by omega) (zip_pairTrees [some k] [v] X.env pos rfl rfl) (fun z => nomatch z) (show 1 ≤ 15 by decide) ?_
  refine pairTrees_cons_walk (thn (hk.run pins _ σ _ _ I1 (q _ _ hn (Evl.Ex.new hn) upd_same)) fun u s1 ⟨x, H2, I2, rx, q1⟩ => thn (hv.run pins s1 σ H2 _ I2 q1) fun r s2 ⟨y, H3, I3, ry, e, kk, b, β, ex, hkk, hd, q2⟩ => ?_)
  subst ex
  obtain rfl : u = Value.ref b := rx
  refine pairTrees_nil_walk ?_
  have d0 : IsDN β X.K X.w H3 s.heap.objs.size [] := ⟨[], e, .nil, Nat.zero_le _, hb, List.nodup_nil⟩
  obtain ⟨_, _, xs, ea, rel, dd⟩ := dn_at I3 d0.rdB
  cases rel
  refine ⟨[(kk, b, r)], ⟨rfl, rfl, dn_key I3 hkk hd, trivial⟩, dd, fun h' tk dd' hs => ?_⟩
  have dd' : h'.DictOfH (nestedKind X.prog X.w) s.heap.objs.size [(kk, b, r)] := dd'
  have hq : ∃ q, h'.get? s.heap.objs.size = some q := let ⟨q, _, _, hq, _⟩ := dd'; ⟨q, hq⟩
  have exj : Exj s.heap.objs.size H3 (L2.upd H3 s.heap.objs.size (DNO X.w s.heap.objs.size [(kk, b, r)])) := (Exj.refl _ _).upd
  have I4 := d_write (t' := tk) I3 (by rw [e]; exact True.intro) hs hq (dn_obj dd')
  exact ⟨.ref s.heap.objs.size, _, I4, rfl, q2 _ exj ⟨_, upd_same, .cons ⟨rfl, ⟨NIs.keep exj d0.ntup hkk, hd⟩, ry⟩ .nil, by show 1 ≤ sizeLine; decide, hb, by simp⟩⟩
end
/-! ### walked by its keys -/
section
variable {P : Program} {w : World} {K : PySem.W.Frag} {tg : Expr} {X : Cx} {pins : List (Addr × Obj)} {σ : L2.St} {H : Hp} {s : Shared} {d : Addr} {o : Obj} {xs : List (NestedKey × Addr × Value)} {es : Array DictEntry} {ep : Nat}
theorem frzN (I : Inv X pins σ H s) (h : H d = some (.frz o (DNO X.w d xs))) : s.heap.get? d = some o ∧ o.ExactDict ∧ ∃ (es : Array DictEntry) (ep : Nat), o.data = .dict es ep ∧ es.size = xs.length ∧ ∀ (i : Nat) q, xs[i]? = some q → es[i]? = some (entN X.w q) := by
  obtain ⟨hd, ⟨o', es, ep, ho, hx, hdt, he⟩, _⟩ := I.hok d _ h
  rw [hd] at ho
  cases ho
  refine ⟨hd, hx, es, ep, hdt, ?_, fun i q e => ?_⟩
  · have := congrArg List.length he
    simpa using this
  · have : es.toList[i]? = some (entN X.w q) := by rw [he, List.getElem?_map, e]; rfl
    simpa using this
def Itkn (w : World) (d : Addr) (o : Obj) (xs : List (NestedKey × Addr × Value)) : It :=
  ⟨fun i H => H d = some (.frz o (DNO w d xs)) ∧ i < xs.length, fun i H x H' => H' = H ∧ ∃ q, xs[i]? = some q ∧ x = .ref q.2.1, fun i H => H d = some (.frz o (DNO w d xs)) ∧ xs.length ≤ i⟩
theorem turn_keysN (it : Addr) (hod : o.data = .dict es ep) : Turn P w K tg (Itkn w d o xs) [it] it (fun i h => h.IsKeyIter it d i xs.length ep) where
  mem := by simp
  obj := fun i h st b hb => by
    have e : b = it := by simpa using hb
    subst e
    obtain ⟨oi, e, c, dd⟩ := st
    exact ⟨oi, e, fun v z => by rw [dd] at z; cases z⟩
  keep := fun i h h' st k => st.at fun oi e => k it (by simp) oi e
  item := by
    intro X hP hw hK hc i pins s σ H E I hf st hg
    subst hP hw hK
    obtain ⟨hd, hi⟩ := hg
    obtain ⟨f0, f1, f2, f3, f4, f5⟩ := hf it (by simp)
    obtain ⟨hgd, hx, es', ep', hdt, hsz, ent⟩ := frzN I hd
    obtain ⟨rfl, rfl⟩ := dict_ep hod hdt
    obtain ⟨q, hq⟩ : ∃ p, xs[i]? = some p := ⟨xs[i], List.getElem?_eq_getElem hi⟩
    refine next_key_item st hgd hdt hsz (ent i q hq) fun h' st' sb => ?_
    have I1 : Inv X pins σ H { s with heap := h' } := I.turned (t' := s.toks) (fun b ob hb e => (sb.2 b hb).trans e) f0 f1 f3 f4 f5
    obtain ⟨oi, e, c, dd⟩ := id st'
    exact ⟨.ref q.2.1, rfl, go_of (s := { s with heap := h' }) e c dd (by decide) ⟨.ref q.2.1, H, I1, rfl, ⟨rfl, q, hq, rfl⟩, st', fun b hb => (hf b hb).1⟩⟩
  done := by
    intro X hP hw hK hc i pins s σ H E I hf st hg
    subst hP hw hK
    obtain ⟨hd, hi⟩ := hg
    obtain ⟨f0, f1, f2, f3, f4, f5⟩ := hf it (by simp)
    obtain ⟨hgd, hx, es', ep', hdt, hsz, ent⟩ := frzN I hd
    obtain ⟨rfl, rfl⟩ := dict_ep hod hdt
    exact next_key_end (I.ok.hd hc) st hgd hdt hsz hi fun h' eb => ⟨rfl, I.turned (t' := s.toks) (fun b ob hb e => eb b ob hb e) f0 f1 f3 f4 f5⟩
  self := fun A i s Q E st h => by
    refine wpAny_pyIter_slot st.typeIs F.slot_dict_keyiterator_iter (wpAny_call_entry F.slot_dict_keyiterator_iter st.typeIs F.entry_dict_keyiterator_iter ?_ (F.args_dict_keyiterator_iter_1 _))
    show wpAny _ _ (ret (.ref it)) _ _ s
    exact wpAny_pure ⟨_, rfl, "dict_keyiterator", _, st.typeIs, F.slot_dict_keyiterator_next.lookup, h⟩
def iKeysN (w : World) (td : TE) : TI := fun σ H R => td σ H fun x H1 => ∃ d o xs, x = .ref d ∧ H1 d = some (.frz o (DNO w d xs)) ∧ (d == sysModules) = false ∧ R (Itkn w d o xs) H1
theorem pi_keysN {e : Expr} {td : TE} (he : PE X e td) : PI X tg e (iKeysN X.w td) := by
  refine ⟨fun pins s σ H R I h => ?_⟩
  refine thn (he.run pins s σ H _ I h) fun u s1 ⟨x, H1, I1, rx, d, o, xs, ex, hd, hs, q⟩ => ?_
  subst ex
  obtain rfl : u = Value.ref d := rx
  obtain ⟨hgd, hx, es, ep, hdt, hsz, ent⟩ := frzN I1 hd
  refine iter_keys hs hgd hx hdt (pi_one (tk := s1.toks) I1 _ (turn_keysN _ hdt) ⟨_, Heap.get?_push_size _ rfl, rfl, ?_⟩ q)
  rw [hsz] <;> rfl
end
/-- the for over the keys of a locked dict -/
theorem for_keysN {w : World} {d : Addr} {o : Obj} {xs : List (NestedKey × Addr × Value)} {g : TG} {tb : TS} {D : Ends} {σ : L2.St} {H : Hp} (Pv : Nat → L2.St → Hp → Prop) (h0 : Pv 0 σ H) (hl : ∀ i σ H, i ≤ xs.length → Pv i σ H → H d = some (.frz o (DNO w d xs)))
    (hs : ∀ i q σ H, xs[i]? = some q → Pv i σ H → g (.ref q.2.1) σ H fun σ2 H2 => tb { D with nx := Pv (i + 1), ct := Pv (i + 1), bk := D.nx } σ2 H2) (hd : ∀ σ H, Pv xs.length σ H → D.nx σ H) :
    ∃ W : Nat → Nat → L2.St → Hp → Prop, (∃ m, W 0 m σ H) ∧ ∀ i m σ H, W i m σ H →
      ((Itkn w d o xs).stop i H ∧ D.nx σ H) ∨ ((Itkn w d o xs).go i H ∧ ∃ N : L2.St → Hp → Prop, (∀ σ' H', N σ' H' → ∃ m', m' < m ∧ W (i + 1) m' σ' H') ∧ ∀ x H', (Itkn w d o xs).yld i H x H' → g x σ H' fun σ2 H2 => tb { D with nx := N, ct := N, bk := D.nx } σ2 H2) := by
  refine ⟨fun i m σ H => m = xs.length - i ∧ i ≤ xs.length ∧ Pv i σ H, ⟨xs.length, by simp, Nat.zero_le _, h0⟩, ?_⟩
  rintro i m σ H ⟨rfl, hi, p⟩
  have q := hl i σ H hi p
  by_cases hlt : i < xs.length
  · refine .inr ⟨⟨q, hlt⟩, Pv (i + 1), fun σ' H' p' => ⟨xs.length - (i + 1), by omega, rfl, hlt, p'⟩, fun x H' y => ?_⟩
    obtain ⟨e, z, hz, rfl⟩ := y
    subst e
    exact hs i z σ _ hz p
  · have e : i = xs.length := by omega
    subst e
    exact .inl ⟨⟨q, Nat.le_refl _⟩, hd σ H p⟩
/-! ### dict(list of pairs) -/
abbrev PairN (β : Bool) (K : PySem.W.Frag) (H : Hp) (p : Addr) (kv : NestedKey × V) : Prop := ∃ b, SqT K H p [.ref b, kv.2] ∧ NIs β K H kv.1 (.ref b) ∧ kv.1.depth ≤ 8
def putAllN (kvs more : List (NestedKey × V)) : List (NestedKey × V) := more.foldl (fun acc kv => putK acc kv.1 kv.2) kvs
theorem putAllN_len : ∀ (more kvs : List (NestedKey × V)), (putAllN kvs more).length ≤ kvs.length + more.length
  | [], kvs => Nat.le_refl _
  | p :: r, kvs => by
    have h1 := putAllN_len r (putK kvs p.1 p.2)
    have h2 := length_putK kvs p.1 p.2
    show (putAllN (putK kvs p.1 p.2) r).length ≤ _
    rw [List.length_cons]
    omega
theorem KN.putAll {K : PySem.W.Frag} {H : Hp} {more : List (NestedKey × V)} {ys : List (NestedKey × Addr × Value)} (r : KN β K H more ys) : ∀ {kvs : List (NestedKey × V)} {xs : List (NestedKey × Addr × Value)}, KN β K H kvs xs → KN β K H (putAllN kvs more) (storedAllH xs ys) := by
  induction r with
  | nil => exact fun q => q
  | @cons p q ps qs h t ih =>
    intro kvs xs r0
    have e : KN β K H (putK kvs p.1 p.2) (storedH xs q.1 q.2.1 q.2.2) := by
      have := r0.put p.1 (b := q.2.1) h.2.1 h.2.2
      rw [← h.1]
      exact this
    exact ih e
section
variable {X : Cx} {pins : List (Addr × Obj)} {σ : L2.St} {H : Hp} {s : Shared}
theorem pairs_ofN (I : Inv X pins σ H s) {ps : List Addr} {kvs : List (NestedKey × V)} (h : Paired (PairN β X.K H) ps kvs) : ∃ xs, KN β X.K H kvs xs ∧ xs.length = ps.length ∧ ∀ (j : Nat) q, xs[j]? = some q → ∃ p, ps[j]? = some p ∧ s.heap.IsTuple p #[.ref q.2.1, q.2.2] := by
  induction h with
  | nil => exact ⟨[], .nil, rfl, fun j q e => by simp at e⟩
  | @cons p kv ps kvs h t ih =>
    obtain ⟨b, h1, h2, h3⟩ := h
    obtain ⟨xs, r, hl, hp⟩ := ih
    obtain ⟨its, rv, ht, _⟩ := I.tuple h1
    obtain ⟨u, y, ei, ru, ry⟩ := vals2 rv
    subst ei
    obtain rfl : u = Value.ref b := ru
    refine ⟨(kv.1, b, y) :: xs, .cons ⟨rfl, ⟨h2, h3⟩, ry⟩ r, by rw [List.length_cons, List.length_cons, hl], fun j q e => ?_⟩
    cases j with
    | zero =>
      obtain rfl : (kv.1, b, y) = q := Option.some.inj e
      obtain ⟨o, e1, e2, n, e3⟩ := ht
      exact ⟨p, rfl, o, e1, e2, n, e3⟩
    | succ j =>
      obtain ⟨b', e1, e2⟩ := hp j q (by simpa using e)
      exact ⟨b', by simpa using e1, e2⟩
end
def rDictN (K : PySem.W.Frag) (w : World) : List V → Hp → VK → Prop := fun xs H Q => ∃ (a : Addr) (ps : List Addr) (kvs : List (NestedKey × V)) (β : Bool), xs = [.ref a] ∧ SqL K H a (ps.map V.ref) ∧ Paired (PairN β K H) ps kvs ∧ ∀ p H', H p = none → Ex H H' → IsDN β K w H' p (putAllN [] kvs) → Q (.ref p) H'
theorem call_dictN {X : Cx} (hcalm : X.calm = true) (hu : X.A.units + 64 < cLine) : CallR X (.type "dict") (rDictN X.K X.w) := by
  intro pins s σ H xs us Q I r q
  obtain ⟨a, ps, kvs, β, ex, hq, hp, q⟩ := q
  subst ex
  obtain ⟨u, eu, rx⟩ := vals1 r
  subst eu
  cases rx
  obtain ⟨its, rv, pl, hz⟩ := I.list hq
  have ei := refs_at rv
  subst ei
  rw [List.length_map] at hz
  obtain ⟨xs, rel, hl, hpr⟩ := pairs_ofN I hp
  obtain ⟨o, n, ho, hc, hd, hdat⟩ := pl
  have P := PairArg.list (prog := X.prog) (w := X.w) a (ps.map Value.ref).toArray (fun j => ps.getD j 0) (xs.map fun q => (Value.ref q.2.1, q.2.2))
  have isk : ∀ x ∈ xs, (nestedKind X.prog X.w).is s.heap x.1 x.2.1 := by
    have all : ∀ {l : List (NestedKey × V)} {m : List (NestedKey × Addr × Value)}, KN β X.K H l m → ∀ x ∈ m, (nestedKind X.prog X.w).is s.heap x.1 x.2.1 := by
      intro l m q
      induction q with
      | nil => intro x hx; exact nomatch hx
      | @cons p q ps qs hq t ih =>
        intro x hx
        rcases List.mem_cons.mp hx with e | hx
        · subst e
          refine ⟨nis_is I _ (.ref x.2.1) _ (by rw [← hq.1]; exact hq.2.1.1) rfl, ?_⟩
          rw [← hq.1]
          exact hq.2.1.2
        · exact ih x hx
    exact all rel
  refine call_dict_pairsH (knd := nestedKind X.prog X.w) (ps := xs) P (I.ok.hd hcalm) (show X.A.units + 1 + 1 + 8 < cLine by omega) ⟨⟨o, n, ho, hc, hd, hdat⟩, by simp [hl], fun j k v e => ?_⟩ ⟨by simp, fun i key v e => ?_⟩ (fun h' hk x hx => nestedKind_stays.stays (fun b ob vs m e _ => hk b ob (Nat.ne_of_lt (Heap.lt_size e)) (fun z => nomatch z) e) (isk x hx)) (by rw [List.length_map, hl]; exact hz) fun h' tk hd' k => ?_
  · rw [List.getElem?_map] at e
    cases e2 : xs[j]? with
    | none =>
      rw [e2] at e
      cases e
    | some q' =>
      rw [e2] at e
      obtain ⟨p, e3, e4⟩ := hpr j q' e2
      have e := Option.some.inj e
      injection e with e5 e6
      subst e5 e6
      have eg : ps.getD j 0 = p := by rw [List.getD_eq_getElem?_getD, e3]; rfl
      refine ⟨by simp [e3], .inl ?_⟩
      show s.heap.IsTuple (ps.getD j 0) _
      rw [eg]
      exact e4
  · have e : (xs.map fun q => (Value.ref q.2.1, q.2.2))[i]? = some (key, v) := e
    rw [List.getElem?_map] at e
    cases e2 : xs[i]? with
    | none =>
      rw [e2] at e
      cases e
    | some q' =>
      rw [e2] at e
      have e := Option.some.inj e
      injection e with e5 e6
      exact ⟨q'.1, q'.2.1, by rw [← e6], e5.symm⟩
  · have hm : (s.heap.objs.size == sysModules) = false := beq_eq_false_iff_ne.mpr (Nat.ne_of_gt I.big)
    have hn := I.hok.fresh (Nat.le_refl s.heap.objs.size)
    have hlen : (putAllN [] kvs).length ≤ sizeLine := by
      refine Nat.le_trans (putAllN_len kvs []) ?_
      rw [List.length_nil, Nat.zero_add, Paired.length rel, hl]
      exact hz
    have ex : Ex H (L2.upd H s.heap.objs.size (DNO X.w s.heap.objs.size (storedAllH [] xs))) := Evl.Ex.new hn
    have nd : ((storedAllH [] xs).map (·.1)).Nodup := by
      obtain ⟨_, _, _, _, _, _, _, _, n⟩ := hd'
      exact n
    exact ⟨.ref s.heap.objs.size, _, I.laid (t' := tk) (fun b ob e => k b ob (fun z => nomatch z) e) (Nat.le_refl _) (dn_obj hd'), rfl, q _ _ hn ex ⟨_, upd_same, (KN.putAll rel .nil).map fun _ _ => sqT_exN ex, hlen, hm, nd⟩⟩
end My
set_option Elab.async false
set_option linter.all false
set_option maxRecDepth 100000
set_option maxHeartbeats 4000000
/-! comprehensions of two clauses -/
namespace My
open PySem PySem.Spec PyProof.Rows L2
/-- the inner clause, of which Nx holds behind -/
def Inn (D : Addr) (g1 : TG) (tt1 : TT) (te : TE) (σ2 : L2.St) (vs1 : List Nat) (J1 : It) (H4 : Hp) (Nx : Hp → Prop) : Prop := ∃ W1 : Nat → Nat → Hp → Prop, (∃ m, W1 0 m H4) ∧ ∀ j k H, W1 j k H →
  (J1.stop j H ∧ Nx H) ∨ (J1.go j H ∧ ∃ Nx1 : Hp → Prop, (∀ H', Nx1 H' → ∃ k', k' < k ∧ W1 (j + 1) k' H') ∧ ∀ x H', J1.yld j H x H' → g1 x (wipe σ2 vs1) H' fun σ3 H5 => wipe σ3 vs1 = wipe σ2 vs1 ∧ tt1 σ3 H5 fun b H6 =>
    if b = true then te σ3 H6 fun y H7 => ∃ acc, H7 D = some (.lst acc) ∧ acc.length < sizeLine ∧ Nx1 (upd H7 D (.lst (acc ++ [y]))) else Nx1 H6)
theorem lc2_in {J1 : It} {n1 : Nat} {G1 : Hp → Prop} {Y1 : Nat → Hp → V → Hp → Prop} (w : Walk J1 n1 G1 Y1) {D : Addr} {g1 : TG} {tt1 : TT} {te : TE} {σ2 : L2.St} {vs1 : List Nat} {H4 : Hp} {Nx : Hp → Prop} (Pv : Nat → Hp → Prop) (h0 : Pv 0 H4) (hG : ∀ i H, i ≤ n1 → Pv i H → G1 H)
    (hs : ∀ i x H H', i < n1 → Pv i H → Y1 i H x H' → g1 x (wipe σ2 vs1) H' fun σ3 H5 => wipe σ3 vs1 = wipe σ2 vs1 ∧ tt1 σ3 H5 fun b H6 =>
      if b = true then te σ3 H6 fun y H7 => ∃ acc, H7 D = some (.lst acc) ∧ acc.length < sizeLine ∧ Pv (i + 1) (upd H7 D (.lst (acc ++ [y]))) else Pv (i + 1) H6) (hd : ∀ H, Pv n1 H → Nx H) : Inn D g1 tt1 te σ2 vs1 J1 H4 Nx := by
  refine ⟨fun i m H => m = n1 - i ∧ i ≤ n1 ∧ Pv i H, ⟨n1, by simp, Nat.zero_le _, h0⟩, ?_⟩
  rintro i m H ⟨rfl, hi, p⟩
  have q := hG i H hi p
  by_cases hlt : i < n1
  · exact .inr ⟨w.goes i H hlt q, Pv (i + 1), fun H' p' => ⟨n1 - (i + 1), by omega, rfl, hlt, p'⟩, fun x H' y => hs i x H H' hlt p (w.yields i H x H' hlt q y)⟩
  · have e : i = n1 := by omega
    subst e
    exact .inl ⟨w.stops H q, hd H p⟩
theorem lc2_out {J : It} {n : Nat} {G : Hp → Prop} {Y : Nat → Hp → V → Hp → Prop} (w : Walk J n G Y) {g : TG} {tt : TT} {wi1 : TI} {g1 : TG} {tt1 : TT} {te : TE} {vs vs1 : List Nat} {σ : L2.St} {H1 : Hp} {D : Addr} {Qd : Hp → Prop} (Pv : Nat → Hp → Prop) (h0 : Pv 0 (upd H1 D (.lst []))) (hG : ∀ i H, i ≤ n → Pv i H → G H)
    (hs : ∀ i x H H', i < n → Pv i H → Y i H x H' → g x (wipe σ vs) H' fun σ2 H2 => wipe σ2 vs = wipe σ vs ∧ tt σ2 H2 fun b H3 =>
      if b = true then wi1 σ2 H3 fun J1 H4 => Inn D g1 tt1 te σ2 vs1 J1 H4 (Pv (i + 1)) else Pv (i + 1) H3) (hd : ∀ H, Pv n H → Qd H) :
    ∃ W : Nat → Nat → Hp → Prop, (∃ m, W 0 m (upd H1 D (.lst []))) ∧ ∀ i m H, W i m H →
      (J.stop i H ∧ Qd H) ∨ (J.go i H ∧ ∃ Nx : Hp → Prop, (∀ H', Nx H' → ∃ m', m' < m ∧ W (i + 1) m' H') ∧ ∀ x H', J.yld i H x H' → g x (wipe σ vs) H' fun σ2 H2 => wipe σ2 vs = wipe σ vs ∧ tt σ2 H2 fun b H3 =>
        if b = true then wi1 σ2 H3 fun J1 H4 => Inn D g1 tt1 te σ2 vs1 J1 H4 Nx else Nx H3) := by
  refine ⟨fun i m H => m = n - i ∧ i ≤ n ∧ Pv i H, ⟨n, by simp, Nat.zero_le _, h0⟩, ?_⟩
  rintro i m H ⟨rfl, hi, p⟩
  have q := hG i H hi p
  by_cases hlt : i < n
  · exact .inr ⟨w.goes i H hlt q, Pv (i + 1), fun H' p' => ⟨n - (i + 1), by omega, rfl, hlt, p'⟩, fun x H' y => hs i x H H' hlt p (w.yields i H x H' hlt q y)⟩
  · have e : i = n := by omega
    subst e
    exact .inl ⟨w.stops H q, hd H p⟩
end My
set_option Elab.async false
set_option linter.all false
set_option maxRecDepth 100000
set_option maxHeartbeats 4000000
/-! A breadth search that keeps a way to each state: ways lead there, no shorter list of moves does. No program in sight. -/
namespace Bfs
section
variable {σ μ : Type} [DecidableEq σ]
def getP (l : List (σ × List μ)) (s : σ) : Option (List μ) := (l.find? fun q => decide (q.1 = s)).map (·.2)
theorem getP_app {l m : List (σ × List μ)} {s : σ} {p : List μ} (h : getP l s = some p) : getP (l ++ m) s = some p := by
  unfold getP at h ⊢
  rw [List.find?_append]
  cases e : l.find? fun q => decide (q.1 = s) with
  | none =>
    rw [e] at h
    cases h
  | some q =>
    rw [e] at h
    exact h
theorem getP_new {l : List (σ × List μ)} {s : σ} {p : List μ} (h : getP l s = none) : getP (l ++ [(s, p)]) s = some p := by
  unfold getP at h ⊢
  rw [List.find?_append]
  cases e : l.find? fun q => decide (q.1 = s) with
  | none =>
    rw [Option.none_or, List.find?_cons_of_pos (by simp)]
    rfl
  | some q =>
    rw [e] at h
    cases h
theorem getP_ne {l : List (σ × List μ)} {s t : σ} {p : List μ} (h : t ≠ s) : getP (l ++ [(t, p)]) s = getP l s := by
  unfold getP
  rw [List.find?_append]
  cases e : l.find? fun q => decide (q.1 = s) with
  | none =>
    rw [Option.none_or, List.find?_cons_of_neg (by simp [h])]
    rfl
  | some q => rfl
structure Bs (σ μ : Type) where
  found : List (σ × List μ)
  later : List σ
variable (step : σ → μ → σ) (moves : List μ)
def turnB (one : σ) (b : Bs σ μ) (m : μ) : Bs σ μ := if (getP b.found (step one m)).isSome = true then b else ⟨b.found ++ [(step one m, ((getP b.found one).getD []) ++ [m])], b.later ++ [step one m]⟩
def rowB (b : Bs σ μ) (one : σ) : Bs σ μ := moves.foldl (turnB step one) b
def layerB (b : Bs σ μ) : Bs σ μ := b.later.foldl (rowB step moves) ⟨b.found, []⟩
def bfsB (s0 : σ) : Nat → Bs σ μ
  | 0 => ⟨[(s0, [])], [s0]⟩
  | k + 1 => layerB step moves (bfsB s0 k)
variable {step moves}
/-- every way leads there; the last layer's states are those with ways of k moves; every state within k moves is told, not later -/
structure Inv (s0 : σ) (k : Nat) (b : Bs σ μ) : Prop where
  way : ∀ s p, getP b.found s = some p → p.foldl step s0 = s ∧ p.length ≤ k ∧ ∀ m ∈ p, m ∈ moves
  last : ∀ s, s ∈ b.later ↔ ∃ p, getP b.found s = some p ∧ p.length = k
  all : ∀ p : List μ, (∀ m ∈ p, m ∈ moves) → p.length ≤ k → ∃ q, getP b.found (p.foldl step s0) = some q ∧ q.length ≤ p.length
/-- while a layer is done -/
structure Mid (s0 : σ) (k : Nat) (f0 : List (σ × List μ)) (b : Bs σ μ) : Prop where
  old : ∀ s p, getP f0 s = some p → getP b.found s = some p
  way : ∀ s p, getP b.found s = some p → getP f0 s = some p ∨ (p.foldl step s0 = s ∧ p.length = k + 1 ∧ ∀ m ∈ p, m ∈ moves)
  last : ∀ s, s ∈ b.later ↔ getP f0 s = none ∧ ∃ p, getP b.found s = some p
theorem Mid.turn {s0 one : σ} {k : Nat} {f0 : List (σ × List μ)} {b : Bs σ μ} {p : List μ} (M : Mid (step := step) (moves := moves) s0 k f0 b) (h1 : getP f0 one = some p) (h2 : p.foldl step s0 = one) (h3 : p.length = k) (h4 : ∀ m ∈ p, m ∈ moves) {m : μ} (hm : m ∈ moves) :
    Mid (step := step) (moves := moves) s0 k f0 (turnB step one b m) ∧ (∃ q, getP (turnB step one b m).found (step one m) = some q) ∧ ∀ s q, getP b.found s = some q → getP (turnB step one b m).found s = some q := by
  unfold turnB
  by_cases c : (getP b.found (step one m)).isSome = true
  · rw [if_pos c]
    exact ⟨M, Option.isSome_iff_exists.mp c, fun s q h => h⟩
  · rw [if_neg c]
    have c : getP b.found (step one m) = none := by
      cases e : getP b.found (step one m) with
      | none => rfl
      | some q => rw [e] at c; exact absurd rfl c
    have ho : getP b.found one = some p := M.old _ _ h1
    rw [ho]
    show Mid s0 k f0 ⟨b.found ++ [(step one m, p ++ [m])], b.later ++ [step one m]⟩ ∧ _
    have fresh : getP f0 (step one m) = none := by
      cases e : getP f0 (step one m) with
      | none => rfl
      | some q => rw [M.old _ _ e] at c; cases c
    refine ⟨⟨fun s q h => getP_app (M.old s q h), fun s q h => ?_, fun s => ?_⟩, ⟨p ++ [m], getP_new c⟩, fun s q h => getP_app h⟩
    · by_cases e : step one m = s
      · subst e
        rw [getP_new c] at h
        cases h
        refine .inr ⟨by rw [List.foldl_append, h2]; rfl, by rw [List.length_append, h3]; rfl, fun x hx => ?_⟩
        rcases List.mem_append.mp hx with z | z
        · exact h4 x z
        · rw [List.mem_singleton.mp z]
          exact hm
      · rw [getP_ne e] at h
        exact M.way s q h
    · rw [List.mem_append, List.mem_singleton, M.last]
      constructor
      · rintro (⟨a, q, hq⟩ | e)
        · exact ⟨a, q, getP_app hq⟩
        · rw [e]
          exact ⟨fresh, p ++ [m], getP_new c⟩
      · rintro ⟨a, q, hq⟩
        by_cases e : step one m = s
        · exact .inr e.symm
        · rw [getP_ne e] at hq
          exact .inl ⟨a, q, hq⟩
theorem Mid.row {s0 one : σ} {k : Nat} {f0 : List (σ × List μ)} {p : List μ} (h1 : getP f0 one = some p) (h2 : p.foldl step s0 = one) (h3 : p.length = k) (h4 : ∀ m ∈ p, m ∈ moves) : ∀ (ms : List μ) (b : Bs σ μ), Mid (step := step) (moves := moves) s0 k f0 b → (∀ m ∈ ms, m ∈ moves) →
    Mid (step := step) (moves := moves) s0 k f0 (ms.foldl (turnB step one) b) ∧ (∀ m ∈ ms, ∃ q, getP (ms.foldl (turnB step one) b).found (step one m) = some q) ∧ ∀ s q, getP b.found s = some q → getP (ms.foldl (turnB step one) b).found s = some q
  | [], b, M, _ => ⟨M, (fun m h => nomatch h), fun s q h => h⟩
  | m :: ms, b, M, hm => by
    obtain ⟨M1, ⟨q1, hq1⟩, k1⟩ := M.turn h1 h2 h3 h4 (hm m List.mem_cons_self)
    obtain ⟨M2, a2, k2⟩ := Mid.row h1 h2 h3 h4 ms _ M1 fun x hx => hm x (List.mem_cons_of_mem _ hx)
    refine ⟨M2, fun x hx => ?_, fun s q h => k2 s q (k1 s q h)⟩
    rcases List.mem_cons.mp hx with e | e
    · rw [e]
      exact ⟨q1, k2 _ _ hq1⟩
    · exact a2 x e
theorem Mid.layer {s0 : σ} {k : Nat} {f0 : List (σ × List μ)} : ∀ (ly : List σ) (b : Bs σ μ), (∀ s ∈ ly, ∃ p, getP f0 s = some p ∧ p.foldl step s0 = s ∧ p.length = k ∧ ∀ m ∈ p, m ∈ moves) → Mid (step := step) (moves := moves) s0 k f0 b →
    Mid (step := step) (moves := moves) s0 k f0 (ly.foldl (rowB step moves) b) ∧ (∀ s ∈ ly, ∀ m ∈ moves, ∃ q, getP (ly.foldl (rowB step moves) b).found (step s m) = some q) ∧ ∀ s q, getP b.found s = some q → getP (ly.foldl (rowB step moves) b).found s = some q
  | [], b, _, M => ⟨M, (fun s h => nomatch h), fun s q h => h⟩
  | one :: ly, b, h, M => by
    obtain ⟨p, h1, h2, h3, h4⟩ := h one List.mem_cons_self
    obtain ⟨M1, a1, k1⟩ := Mid.row h1 h2 h3 h4 moves b M fun m hm => hm
    obtain ⟨M2, a2, k2⟩ := Mid.layer ly _ (fun s hs => h s (List.mem_cons_of_mem _ hs)) M1
    refine ⟨M2, fun s hs m hm => ?_, fun s q hq => k2 s q (k1 s q hq)⟩
    rcases List.mem_cons.mp hs with e | e
    · rw [e]
      obtain ⟨q, hq⟩ := a1 m hm
      exact ⟨q, k2 _ _ hq⟩
    · exact a2 s e m hm
theorem Inv.start (s0 : σ) : Inv (step := step) (moves := moves) s0 0 (bfsB step moves s0 0) := by
  have g : getP (bfsB step moves s0 0).found s0 = some [] := by
    show (List.find? _ [(s0, [])]).map _ = _
    rw [List.find?_cons_of_pos (by simp)]
    rfl
  have n : ∀ s p, getP (bfsB step moves s0 0).found s = some p → s = s0 ∧ p = [] := fun s p h => by
    by_cases e : s0 = s
    · rw [← e, g] at h
      exact ⟨e.symm, (Option.some.inj h).symm⟩
    · have : getP (bfsB step moves s0 0).found s = none := by
        show (List.find? _ [(s0, [])]).map _ = _
        rw [List.find?_cons_of_neg (by simp [e])]
        rfl
      rw [this] at h
      cases h
  refine ⟨fun s p h => ?_, fun s => ?_, fun p hp hl => ?_⟩
  · obtain ⟨rfl, rfl⟩ := n s p h
    exact ⟨rfl, Nat.le_refl _, (fun m hm => nomatch hm)⟩
  · constructor
    · intro hs
      rw [List.mem_singleton.mp hs]
      exact ⟨[], g, rfl⟩
    · rintro ⟨p, h, _⟩
      obtain ⟨rfl, rfl⟩ := n s p h
      exact List.mem_singleton.mpr rfl
  · have : p = [] := List.eq_nil_of_length_eq_zero (by omega)
    rw [this]
    exact ⟨[], g, Nat.le_refl _⟩
theorem Inv.next {s0 : σ} {k : Nat} {b : Bs σ μ} (I : Inv (step := step) (moves := moves) s0 k b) : Inv (step := step) (moves := moves) s0 (k + 1) (layerB step moves b) := by
  have M0 : Mid (step := step) (moves := moves) s0 k b.found ⟨b.found, []⟩ := ⟨fun s p h => h, fun s p h => .inl h, fun s => by
    constructor
    · intro h
      exact nomatch h
    · rintro ⟨a, p, h⟩
      rw [a] at h
      cases h⟩
  obtain ⟨M, a, kp⟩ := Mid.layer b.later ⟨b.found, []⟩ (fun s hs => by
    obtain ⟨p, h1, h2⟩ := (I.last s).mp hs
    obtain ⟨h3, _, h4⟩ := I.way s p h1
    exact ⟨p, h1, h3, h2, h4⟩) M0
  refine ⟨fun s p h => ?_, fun s => ?_, fun p hp hl => ?_⟩
  · rcases M.way s p h with z | z
    · obtain ⟨h1, h2, h3⟩ := I.way s p z
      exact ⟨h1, Nat.le_succ_of_le h2, h3⟩
    · exact ⟨z.1, Nat.le_of_eq z.2.1, z.2.2⟩
  · refine (M.last s).trans ?_
    constructor
    · rintro ⟨h1, p, h2⟩
      rcases M.way s p h2 with z | z
      · rw [h1] at z
        cases z
      · exact ⟨p, h2, z.2.1⟩
    · rintro ⟨p, h1, h2⟩
      rcases M.way s p h1 with z | z
      · have := (I.way s p z).2.1
        omega
      · refine ⟨?_, p, h1⟩
        cases e : getP b.found s with
        | none => rfl
        | some q =>
          have h3 := M.old s q e
          have h4 : getP (layerB step moves b).found s = some q := h3
          rw [h1] at h4
          cases h4
          have := (I.way s p e).2.1
          omega
  · by_cases z : p.length ≤ k
    · obtain ⟨q, h1, h2⟩ := I.all p hp z
      exact ⟨q, M.old _ _ h1, h2⟩
    · rcases List.eq_nil_or_concat p with e | ⟨q, m, e⟩
      · rw [e] at z
        exact absurd (Nat.zero_le _) z
      · rw [List.concat_eq_append] at e
        subst e
        rw [List.length_append, List.length_cons, List.length_nil] at hl z
        have hq : ∀ x ∈ q, x ∈ moves := fun x hx => hp x (List.mem_append_left _ hx)
        have hm : m ∈ moves := hp m (List.mem_append_right _ List.mem_cons_self)
        obtain ⟨r, h1, h2⟩ := I.all q hq (by omega)
        rw [List.foldl_append]
        show ∃ q', getP (layerB step moves b).found (step (q.foldl step s0) m) = some q' ∧ _
        by_cases y : r.length = k
        · obtain ⟨q', hq'⟩ := a _ ((I.last _).mpr ⟨r, h1, y⟩) m hm
          refine ⟨q', hq', ?_⟩
          rw [List.length_append]
          show q'.length ≤ q.length + 1
          rcases M.way _ _ hq' with x | x
          · have := (I.way _ _ x).2.1
            omega
          · omega
        · obtain ⟨e1, e2, e3⟩ := I.way _ _ h1
          have el : (r ++ [m]).length ≤ k := by
            rw [List.length_append]
            show r.length + 1 ≤ k
            omega
          obtain ⟨q', h3, h4⟩ := I.all (r ++ [m]) (fun x hx => by
            rcases List.mem_append.mp hx with u | u
            · exact e3 x u
            · rw [List.mem_singleton.mp u]; exact hm) el
          rw [List.foldl_append, e1] at h3
          refine ⟨q', M.old _ _ h3, ?_⟩
          rw [List.length_append] at h4 ⊢
          have : r.length + 1 ≤ q.length + 1 := by omega
          exact Nat.le_trans h4 this
theorem Inv.bfs (s0 : σ) : ∀ k, Inv (step := step) (moves := moves) s0 k (bfsB step moves s0 k)
  | 0 => Inv.start s0
  | k + 1 => (Inv.bfs s0 k).next
end
end Bfs
set_option Elab.async false
set_option linter.all false
set_option maxRecDepth 100000
set_option maxHeartbeats 4000000
/-! tuple * int, once or more; slices and sums of tuples, any; the new one behind a letter. -/
namespace My
open PySem PySem.Spec PyProof.Rows L2
theorem tuple_mul1 (l : Addr) (items : Array Value) (n : Nat) (dd : Option Addr) (sl : Array (Option Value)) (u : Tok) :
    Meets (Builtin.«tuple.__mul__» ⟨[.ref l, .int 1 u], []⟩) (fun _ R s => s.heap.get? l = some { cls := .type "tuple", dict := dd, data := .seq items n, slots := sl } ∧
      R (.ok (.ret (Value.ref l))) s) :=
  .of_wp fun prog w A R s h => by
    obtain ⟨hp, g, d, tk, os⟩ := s
    obtain ⟨hl, h⟩ := h
    have f1 := AutoSeq1.idx_int
    have c1 : (items.isEmpty || (1 : Int) == 1) = true := by simp
    wp_walk using wpAny_loadPart' hl
    repeat (first
      | (refine wpAny_ite_false (decide_eq_false (by decide)) ?_; wp_walk using wpAny_loadPart' hl)
      | (refine wpAny_ite_true (decide_eq_true c1) ?_; wp_walk using wpAny_loadPart' hl))
    exact ⟨_, rfl, h⟩
section
variable {X : Cx}
/-- t * k, once or more -/
def rRepU (K : PySem.W.Frag) : R2 := fun x y H Q => ∃ l k xs, x = .ref l ∧ y = .int k ∧ SqT K H l xs ∧ xs ≠ [] ∧ 1 ≤ k ∧ k ≤ 1000 ∧ xs.length ≤ 1000 ∧ ∀ p H', Ex H H' → SqT K H' p (List.replicate k.toNat xs).flatten → Q (.ref p) H'
theorem op_repU : OpR X (binaryOp .Mult) (rRepU X.K) := by
  intro pins s σ H x y v u Q I rx ry h
  obtain ⟨l, k, xs, rfl, rfl, hT, hne, h1, h2, hz, q⟩ := h
  by_cases hk : k = 1
  · subst hk
    cases rx
    obtain ⟨t, rfl⟩ := ry
    obtain ⟨its, r, ⟨⟨cls, dd, data, sl⟩, ho, hc, n, hd⟩, hs⟩ := I.tuple hT
    simp only at hc hd
    subst hc hd
    refine wpAny_binaryOp_repeat_ref (T := "tuple") (U := "int") (by decide) ⟨_, ho, rfl⟩ (fun s' => typeIs_int s' 1 t) noFill_tuple_mul F.fills_int_mul F.slot_int_rmul repeat_tuple F.slot_int_index.lookup
      (call_meets F.slot_int_rmul (typeIs_int s 1 t) F.entry_int_rmul (F.args_int_rmul_2 _ _) (int_rmul_tuple 1 t l its.toArray n dd sl)
        ⟨ho, rfl, ⟨_, ho, rfl⟩, call_meets F.slot_tuple_mul ⟨_, ho, rfl⟩ F.entry_tuple_mul (F.args_tuple_mul_2 _ _) (tuple_mul1 l its.toArray n dd sl t) ⟨ho, ?_⟩⟩)
    exact ⟨.ref l, H, I, rfl, q l H (Evl.Ex.refl _) (by show SqT X.K H l ((List.replicate 1 xs).flatten); simpa using hT)⟩
  · exact op_repT pins s σ H _ _ v u Q I rx ry ⟨l, k, xs, rfl, rfl, hT, hne, by omega, h2, hz, fun p hp => q p _ (Evl.Ex.new hp) (.inl (.inl upd_same))⟩
def rCatU (K : PySem.W.Frag) : R2 := fun x y H Q => ∃ a b xs ys, x = .ref a ∧ y = .ref b ∧ SqT K H a xs ∧ SqT K H b ys ∧ xs.length + ys.length ≤ sizeLine ∧ ∀ p H', Ex H H' → SqT K H' p (xs ++ ys) → Q (.ref p) H'
theorem op_catU : OpR X (binaryOp .Add) (rCatU X.K) := fun pins s σ H x y v u Q I rx ry ⟨a, b, xs, ys, h1, h2, h3, h4, h5, q⟩ => op_catA pins s σ H x y v u Q I rx ry ⟨a, b, xs, ys, h1, h2, h3, h4, h5, fun e => q b H (Evl.Ex.refl _) (by rw [e]; exact h4), fun _ e => q a H (Evl.Ex.refl _) (by rw [e, List.append_nil]; exact h3), fun _ _ p hp => q p _ (Evl.Ex.new hp) (.inl (.inl upd_same))⟩
def rSlU (K : PySem.W.Frag) : V → Option Int → Option Int → Hp → VK → Prop := fun x lo hi H Q => ∃ a xs, x = .ref a ∧ SqT K H a xs ∧ ∀ p H', Ex H H' → SqT K H' p (cutV xs lo hi) → Q (.ref p) H'
theorem sl_tupU : SlR X (rSlU X.K) := fun pins s σ H x v vl vu lo hi sl Q I rx hs pl pu ⟨a, xs, h1, h2, q⟩ => sl_tupA pins s σ H x v vl vu lo hi sl Q I rx hs pl pu ⟨a, xs, h1, h2, fun e => q a H (Evl.Ex.refl _) (by
  have : cutV xs lo hi = xs := by
    unfold cutV
    rw [e.1, e.2]
    simp
  rw [this]
  exact h2), fun _ p hp => q p _ (Evl.Ex.new hp) (.inl (.inl upd_same))⟩
end
end My
set_option Elab.async false
set_option linter.all false
set_option maxRecDepth 100000
set_option maxHeartbeats 4000000
/-! d.get(k) where k may be None -/
namespace My
open PySem PySem.Spec PyProof.Rows L2
section
variable {X : Cx} {pins : List (Addr × Obj)} {σ : L2.St} {H : Hp} {s : Shared} {a : Addr} {kvs : List (Key × V)} {A : Around} {E : Value → Shared → Prop}
theorem d_get1N {Q : Value → Shared → Prop} (I : Inv X pins σ H s) (e : Rd H a (.dK kvs)) (h : ∀ s', Inv X pins σ H s' → Q .none s') :
    wpAny (model X.prog X.w) A (call (.builtin "dict.get") [.ref a, .none]) Q E s := by
  obtain ⟨_, hd, vs, _, dd⟩ := dk_rd I.hok e
  obtain ⟨f, hm, hf⟩ := none_map dd
  refine call_meetsIn PySem.F.slot_dict_get dd.typeIs PySem.F.entry_dict_get (PySem.F.args_dict_get_2 _ _) (meets_dict_get (noneKind X.prog X.w) a (show (noneKind X.prog X.w).is none .none = true from rfl) hd) ⟨_, hm, ?_⟩
  rw [hf]
  exact h _ (I.tok _)
def tDGet1N (td ty : TE) : TE := fun σ H Q => td σ H fun x H1 => ∃ a, x = .ref a ∧ IsD H1 a ∧ ty σ H1 fun y H2 => ∃ v, GetV H2 a y .non v ∧ Q v H2
end
section
variable {X : Cx} {o e : Expr} {apos cpos : Pos} {td ty : TE}
theorem pe_dget1N (hu : X.A.units + 1 < cLine) (ho : PE X o td) (he : PE X e ty) (m : M1 X o "get" apos e cpos) : PE X (.Call (.Attribute o "get" apos) [e] [] cpos) (tDGet1N td ty) := by
  refine ⟨fun pins s σ H Q I h => ?_⟩
  refine wpAny_Call_method m.base m.few m.line PySem.F.plainAttrs_dict PySem.F.slot_dict_get PySem.F.type_dict_get (thn (ho.run pins s σ H _ I h) fun u s1 ⟨x, H1, I1, rx, a, ex, d, q1⟩ => ?_)
  subst ex
  obtain rfl : u = Value.ref a := rx
  obtain ⟨t1, t2, _⟩ := isD_at I1 d
  refine ⟨t1, t2, ?_⟩
  rw [m.trees]
  refine Calls.callWith_builtin rfl (Calls.evalArgs_plain (Calls.spliced_cons (thn (he.run pins s1 σ H1 _ I1 q1) fun iv s2 ⟨y, H2, I2, ry, v, gv, q2⟩ => Calls.spliced_nil ?_)))
  rcases gv with ⟨ov, g, rfl⟩ | ⟨kvs, ey, g, rfl⟩
  · exact d_get1 hu I2 g ry fun w' s3 I3 rw' => ⟨_, H2, I3, rw', q2⟩
  · subst ey
    obtain rfl : iv = Value.none := ry
    exact d_get1N I2 g fun s3 I3 => ⟨.non, H2, I3, rfl, q2⟩
end
end My
set_option Elab.async false
set_option linter.all false
set_option maxRecDepth 100000
set_option maxHeartbeats 4000000
namespace K76
open PySem L2 My
def topS (i : Nat) : Stmt := PySem.Challenge.pw_listwindow_k76_whole_costs_click_by_clic.main.body.getD i (.Pass ⟨0, 0, 0, 0⟩)
abbrev PR : Program := PySem.Challenge.pw_listwindow_k76_whole_costs_click_by_clic
abbrev s_init : Stmt := inClass (topS 1) 0
abbrev s_check_there : Stmt := topS 9
theorem sc_check_there : FnScope ["there"] ["there"] (defScope s_check_there) := ⟨rfl, rfl, rfl, by decide +kernel, rfl, by decide +kernel, by decide +kernel⟩
abbrev s_are_marks : Stmt := topS 10
theorem sc_are_marks : FnScope ["marks", "one", "other"] ["marks"] (defScope s_are_marks) := ⟨rfl, rfl, rfl, by decide +kernel, rfl, by decide +kernel, by decide +kernel⟩
abbrev s_check_marks : Stmt := topS 11
theorem sc_check_marks : FnScope ["marks"] ["marks"] (defScope s_check_marks) := ⟨rfl, rfl, rfl, by decide +kernel, rfl, by decide +kernel, by decide +kernel⟩
abbrev s_check_marks_there : Stmt := topS 12
theorem sc_check_marks_there : FnScope ["there", "marks", "row"] ["there", "marks"] (defScope s_check_marks_there) := ⟨rfl, rfl, rfl, by decide +kernel, rfl, by decide +kernel, by decide +kernel⟩
abbrev s_check_clicks : Stmt := topS 13
theorem sc_check_clicks : FnScope ["there", "clicks", "click", "word", "position"] ["there", "clicks"] (defScope s_check_clicks) := ⟨rfl, rfl, rfl, by decide +kernel, rfl, by decide +kernel, by decide +kernel⟩
abbrev s_places_of : Stmt := topS 14
theorem sc_places_of : FnScope ["there", "place", "row"] ["there"] (defScope s_places_of) := ⟨rfl, rfl, rfl, by decide +kernel, rfl, by decide +kernel, by decide +kernel⟩
abbrev s_marked_in : Stmt := topS 15
theorem sc_marked_in : FnScope ["there", "marks", "anchor", "clicks", "places", "found", "word", "position", "row", "first", "last", "is_marked", "other"] ["there", "marks", "anchor", "clicks"] (defScope s_marked_in) := ⟨rfl, rfl, rfl, by decide +kernel, rfl, by decide +kernel, by decide +kernel⟩
abbrev s_borders_in : Stmt := topS 16
theorem sc_borders_in : FnScope ["there", "marks", "flags", "row", "place"] ["there", "marks"] (defScope s_borders_in) := ⟨rfl, rfl, rfl, by decide +kernel, rfl, by decide +kernel, by decide +kernel⟩
abbrev s_blocks_of : Stmt := topS 17
theorem sc_blocks_of : FnScope ["places", "found", "border"] ["places"] (defScope s_blocks_of) := ⟨rfl, rfl, rfl, by decide +kernel, rfl, by decide +kernel, by decide +kernel⟩
abbrev s_cost_in : Stmt := topS 18
theorem sc_cost_in : FnScope ["there", "marks", "first", "last"] ["there", "marks"] (defScope s_cost_in) := ⟨rfl, rfl, rfl, by decide +kernel, rfl, by decide +kernel, by decide +kernel⟩
abbrev s_check_state : Stmt := topS 19
theorem sc_check_state : FnScope ["there", "marks", "clicks"] ["there", "marks", "clicks"] (defScope s_check_state) := ⟨rfl, rfl, rfl, by decide +kernel, rfl, by decide +kernel, by decide +kernel⟩
abbrev s_marked : Stmt := topS 20
theorem sc_marked : FnScope ["there", "marks", "anchor", "clicks"] ["there", "marks", "anchor", "clicks"] (defScope s_marked) := ⟨rfl, rfl, rfl, by decide +kernel, rfl, by decide +kernel, by decide +kernel⟩
abbrev s_borders : Stmt := topS 21
theorem sc_borders : FnScope ["there", "marks"] ["there", "marks"] (defScope s_borders) := ⟨rfl, rfl, rfl, by decide +kernel, rfl, by decide +kernel, by decide +kernel⟩
abbrev s_cost : Stmt := topS 22
theorem sc_cost : FnScope ["there", "marks"] ["there", "marks"] (defScope s_cost) := ⟨rfl, rfl, rfl, by decide +kernel, rfl, by decide +kernel, by decide +kernel⟩
abbrev s_numbers_of_covers : Stmt := topS 24
theorem sc_numbers_of_covers : FnScope ["blocks", "found", "first", "last", "size"] ["blocks"] (defScope s_numbers_of_covers) := ⟨rfl, rfl, rfl, by decide +kernel, rfl, by decide +kernel, by decide +kernel⟩
abbrev s_block_cover : Stmt := topS 25
theorem sc_block_cover : FnScope ["block", "choice", "first", "last", "tokens", "border"] ["block", "choice"] (defScope s_block_cover) := ⟨rfl, rfl, rfl, by decide +kernel, rfl, by decide +kernel, by decide +kernel⟩
abbrev s_cover_in : Stmt := topS 26
theorem sc_cover_in : FnScope ["there", "marks", "index", "blocks", "choices", "number", "found", "block", "choice"] ["there", "marks", "index"] (defScope s_cover_in) := ⟨rfl, rfl, rfl, by decide +kernel, rfl, by decide +kernel, by decide +kernel⟩
abbrev s_clicks_in : Stmt := topS 27
theorem sc_clicks_in : FnScope ["cover", "singles", "found", "place", "token"] ["cover"] (defScope s_clicks_in) := ⟨rfl, rfl, rfl, by decide +kernel, rfl, by decide +kernel, by decide +kernel⟩
abbrev s_cheapest_in : Stmt := topS 29
theorem sc_cheapest_in : FnScope ["there", "marks"] ["there", "marks"] (defScope s_cheapest_in) := ⟨rfl, rfl, rfl, by decide +kernel, rfl, by decide +kernel, by decide +kernel⟩
abbrev s_cheapest_clicks : Stmt := topS 30
theorem sc_cheapest_clicks : FnScope ["there", "marks"] ["there", "marks"] (defScope s_cheapest_clicks) := ⟨rfl, rfl, rfl, by decide +kernel, rfl, by decide +kernel, by decide +kernel⟩
abbrev s_outside : Stmt := topS 31
theorem sc_outside : FnScope ["there", "marks", "row"] ["there", "marks"] (defScope s_outside) := ⟨rfl, rfl, rfl, by decide +kernel, rfl, by decide +kernel, by decide +kernel⟩
abbrev s_next_marks : Stmt := topS 32
theorem sc_next_marks : FnScope ["flags", "anchor", "word", "position", "first", "last"] ["flags", "anchor", "word", "position"] (defScope s_next_marks) := ⟨rfl, rfl, rfl, by decide +kernel, rfl, by decide +kernel, by decide +kernel⟩
abbrev s_first_list : Stmt := topS 33
theorem sc_first_list : FnScope ["flags", "anchor", "goal", "layer", "seen", "state", "way", "later", "word", "position", "behind"] ["flags", "anchor", "goal"] (defScope s_first_list) := ⟨rfl, rfl, rfl, by decide +kernel, rfl, by decide +kernel, by decide +kernel⟩
abbrev s_fewest : Stmt := topS 34
theorem sc_fewest : FnScope ["there", "marks", "anchor", "goal", "flags", "row"] ["there", "marks", "anchor", "goal"] (defScope s_fewest) := ⟨rfl, rfl, rfl, by decide +kernel, rfl, by decide +kernel, by decide +kernel⟩
abbrev s__law_source : Stmt := topS 36
theorem sc__law_source : FnScope ["_law_script", "_law_index", "_law_cell"] ["_law_script", "_law_index"] (defScope s__law_source) := ⟨rfl, rfl, rfl, by decide +kernel, rfl, by decide +kernel, by decide +kernel⟩
abbrev s__law_draw : Stmt := topS 37
theorem sc__law_draw : FnScope ["_law_source_here", "_law_bound", "_law_digit", "_law_mixed"] ["_law_source_here", "_law_bound"] (defScope s__law_draw) := ⟨rfl, rfl, rfl, by decide +kernel, rfl, by decide +kernel, by decide +kernel⟩
abbrev s__law_some : Stmt := topS 38
theorem sc__law_some : FnScope ["_law_source_here", "_law_things", "_law_size", "_law_left", "_law_step"] ["_law_source_here", "_law_things", "_law_size"] (defScope s__law_some) := ⟨rfl, rfl, rfl, by decide +kernel, rfl, by decide +kernel, by decide +kernel⟩
abbrev s__law_clicks : Stmt := topS 39
theorem sc__law_clicks : FnScope ["_law_source_here", "_law_size", "_law_many", "_law_found", "_law_number"] ["_law_source_here", "_law_size", "_law_many"] (defScope s__law_clicks) := ⟨rfl, rfl, rfl, by decide +kernel, rfl, by decide +kernel, by decide +kernel⟩
abbrev s__law_along_right : Stmt := topS 40
theorem sc__law_along_right : FnScope ["_law_there", "_law_anchor", "_law_clicks_here", "_law_marks", "_law_told", "_law_number", "_law_before", "_law_was", "_law_behind", "_law_new", "_law_is_range", "_law_border"] ["_law_there", "_law_anchor", "_law_clicks_here"] (defScope s__law_along_right) := ⟨rfl, rfl, rfl, by decide +kernel, rfl, by decide +kernel, by decide +kernel⟩
abbrev s__law_near_right : Stmt := topS 41
theorem sc__law_near_right : FnScope ["_law_there", "_law_marks", "_law_row", "_law_other", "_law_own"] ["_law_there", "_law_marks"] (defScope s__law_near_right) := ⟨rfl, rfl, rfl, by decide +kernel, rfl, by decide +kernel, by decide +kernel⟩
abbrev s__law_both_right : Stmt := topS 42
theorem sc__law_both_right : FnScope ["_law_there", "_law_marks", "_law_other", "_law_apart", "_law_one", "_law_two", "_law_both", "_law_due", "_law_beside", "_law_total", "_law_row", "_law_border"] ["_law_there", "_law_marks", "_law_other"] (defScope s__law_both_right) := ⟨rfl, rfl, rfl, by decide +kernel, rfl, by decide +kernel, by decide +kernel⟩
abbrev s_law : Stmt := topS 43
theorem sc_law : FnScope ["_law_script", "_law_index", "_law_source_here", "_law_size", "_law_there", "_law_anchor", "_law_marks", "_law_other", "_law_few", "_law_one", "_law_two", "_law_told", "_law_way", "_law_behind", "_law_row"] ["_law_script"] (defScope s_law) := ⟨rfl, rfl, rfl, by decide +kernel, rfl, by decide +kernel, by decide +kernel⟩
structure Txt (K : PySem.W.Frag) (mg : Str → Option Value) where
  a_check_there : Addr
  d_check_there : FuncData
  f_check_there : Fun K "check_there" "check_there" s_check_there a_check_there d_check_there
  g_check_there : mg "check_there" = some (.ref a_check_there)
  a_are_marks : Addr
  d_are_marks : FuncData
  f_are_marks : Fun K "are_marks" "are_marks" s_are_marks a_are_marks d_are_marks
  g_are_marks : mg "are_marks" = some (.ref a_are_marks)
  a_check_marks : Addr
  d_check_marks : FuncData
  f_check_marks : Fun K "check_marks" "check_marks" s_check_marks a_check_marks d_check_marks
  g_check_marks : mg "check_marks" = some (.ref a_check_marks)
  a_check_marks_there : Addr
  d_check_marks_there : FuncData
  f_check_marks_there : Fun K "check_marks_there" "check_marks_there" s_check_marks_there a_check_marks_there d_check_marks_there
  g_check_marks_there : mg "check_marks_there" = some (.ref a_check_marks_there)
  a_check_clicks : Addr
  d_check_clicks : FuncData
  f_check_clicks : Fun K "check_clicks" "check_clicks" s_check_clicks a_check_clicks d_check_clicks
  g_check_clicks : mg "check_clicks" = some (.ref a_check_clicks)
  a_places_of : Addr
  d_places_of : FuncData
  f_places_of : Fun K "places_of" "places_of" s_places_of a_places_of d_places_of
  g_places_of : mg "places_of" = some (.ref a_places_of)
  a_marked_in : Addr
  d_marked_in : FuncData
  f_marked_in : Fun K "marked_in" "marked_in" s_marked_in a_marked_in d_marked_in
  g_marked_in : mg "marked_in" = some (.ref a_marked_in)
  a_borders_in : Addr
  d_borders_in : FuncData
  f_borders_in : Fun K "borders_in" "borders_in" s_borders_in a_borders_in d_borders_in
  g_borders_in : mg "borders_in" = some (.ref a_borders_in)
  a_blocks_of : Addr
  d_blocks_of : FuncData
  f_blocks_of : Fun K "blocks_of" "blocks_of" s_blocks_of a_blocks_of d_blocks_of
  g_blocks_of : mg "blocks_of" = some (.ref a_blocks_of)
  a_cost_in : Addr
  d_cost_in : FuncData
  f_cost_in : Fun K "cost_in" "cost_in" s_cost_in a_cost_in d_cost_in
  g_cost_in : mg "cost_in" = some (.ref a_cost_in)
  a_check_state : Addr
  d_check_state : FuncData
  f_check_state : Fun K "check_state" "check_state" s_check_state a_check_state d_check_state
  g_check_state : mg "check_state" = some (.ref a_check_state)
  a_marked : Addr
  d_marked : FuncData
  f_marked : Fun K "marked" "marked" s_marked a_marked d_marked
  g_marked : mg "marked" = some (.ref a_marked)
  a_borders : Addr
  d_borders : FuncData
  f_borders : Fun K "borders" "borders" s_borders a_borders d_borders
  g_borders : mg "borders" = some (.ref a_borders)
  a_cost : Addr
  d_cost : FuncData
  f_cost : Fun K "cost" "cost" s_cost a_cost d_cost
  g_cost : mg "cost" = some (.ref a_cost)
  a_numbers_of_covers : Addr
  d_numbers_of_covers : FuncData
  f_numbers_of_covers : Fun K "numbers_of_covers" "numbers_of_covers" s_numbers_of_covers a_numbers_of_covers d_numbers_of_covers
  g_numbers_of_covers : mg "numbers_of_covers" = some (.ref a_numbers_of_covers)
  a_block_cover : Addr
  d_block_cover : FuncData
  f_block_cover : Fun K "block_cover" "block_cover" s_block_cover a_block_cover d_block_cover
  g_block_cover : mg "block_cover" = some (.ref a_block_cover)
  a_cover_in : Addr
  d_cover_in : FuncData
  f_cover_in : Fun K "cover_in" "cover_in" s_cover_in a_cover_in d_cover_in
  g_cover_in : mg "cover_in" = some (.ref a_cover_in)
  a_clicks_in : Addr
  d_clicks_in : FuncData
  f_clicks_in : Fun K "clicks_in" "clicks_in" s_clicks_in a_clicks_in d_clicks_in
  g_clicks_in : mg "clicks_in" = some (.ref a_clicks_in)
  a_cheapest_in : Addr
  d_cheapest_in : FuncData
  f_cheapest_in : Fun K "cheapest_in" "cheapest_in" s_cheapest_in a_cheapest_in d_cheapest_in
  g_cheapest_in : mg "cheapest_in" = some (.ref a_cheapest_in)
  a_cheapest_clicks : Addr
  d_cheapest_clicks : FuncData
  f_cheapest_clicks : Fun K "cheapest_clicks" "cheapest_clicks" s_cheapest_clicks a_cheapest_clicks d_cheapest_clicks
  g_cheapest_clicks : mg "cheapest_clicks" = some (.ref a_cheapest_clicks)
  a_outside : Addr
  d_outside : FuncData
  f_outside : Fun K "outside" "outside" s_outside a_outside d_outside
  g_outside : mg "outside" = some (.ref a_outside)
  a_next_marks : Addr
  d_next_marks : FuncData
  f_next_marks : Fun K "next_marks" "next_marks" s_next_marks a_next_marks d_next_marks
  g_next_marks : mg "next_marks" = some (.ref a_next_marks)
  a_first_list : Addr
  d_first_list : FuncData
  f_first_list : Fun K "first_list" "first_list" s_first_list a_first_list d_first_list
  g_first_list : mg "first_list" = some (.ref a_first_list)
  a_fewest : Addr
  d_fewest : FuncData
  f_fewest : Fun K "fewest" "fewest" s_fewest a_fewest d_fewest
  g_fewest : mg "fewest" = some (.ref a_fewest)
  a__law_source : Addr
  d__law_source : FuncData
  f__law_source : Fun K "_law_source" "_law_source" s__law_source a__law_source d__law_source
  g__law_source : mg "_law_source" = some (.ref a__law_source)
  a__law_draw : Addr
  d__law_draw : FuncData
  f__law_draw : Fun K "_law_draw" "_law_draw" s__law_draw a__law_draw d__law_draw
  g__law_draw : mg "_law_draw" = some (.ref a__law_draw)
  a__law_some : Addr
  d__law_some : FuncData
  f__law_some : Fun K "_law_some" "_law_some" s__law_some a__law_some d__law_some
  g__law_some : mg "_law_some" = some (.ref a__law_some)
  a__law_clicks : Addr
  d__law_clicks : FuncData
  f__law_clicks : Fun K "_law_clicks" "_law_clicks" s__law_clicks a__law_clicks d__law_clicks
  g__law_clicks : mg "_law_clicks" = some (.ref a__law_clicks)
  a__law_along_right : Addr
  d__law_along_right : FuncData
  f__law_along_right : Fun K "_law_along_right" "_law_along_right" s__law_along_right a__law_along_right d__law_along_right
  g__law_along_right : mg "_law_along_right" = some (.ref a__law_along_right)
  a__law_near_right : Addr
  d__law_near_right : FuncData
  f__law_near_right : Fun K "_law_near_right" "_law_near_right" s__law_near_right a__law_near_right d__law_near_right
  g__law_near_right : mg "_law_near_right" = some (.ref a__law_near_right)
  a__law_both_right : Addr
  d__law_both_right : FuncData
  f__law_both_right : Fun K "_law_both_right" "_law_both_right" s__law_both_right a__law_both_right d__law_both_right
  g__law_both_right : mg "_law_both_right" = some (.ref a__law_both_right)
  a_law : Addr
  d_law : FuncData
  f_law : Fun K "law" "law" s_law a_law d_law
  g_law : mg "law" = some (.ref a_law)
  fI : Addr
  cI : Addr
  cdI : Addr
  dD : Addr
  dI : FuncData
  iT : InitT PR K mg s_init "WindowError.__init__" fI cI cdI dD dI
  c_WindowError : Addr
  e_WindowError : ErrC K fI dD c_WindowError
  g_WindowError : mg "WindowError" = some (.ref c_WindowError)
  c_InvalidRows : Addr
  e_InvalidRows : ErrC K fI dD c_InvalidRows
  g_InvalidRows : mg "InvalidRows" = some (.ref c_InvalidRows)
  c_InvalidPosition : Addr
  e_InvalidPosition : ErrC K fI dD c_InvalidPosition
  g_InvalidPosition : mg "InvalidPosition" = some (.ref c_InvalidPosition)
  c_InvalidMarks : Addr
  e_InvalidMarks : ErrC K fI dD c_InvalidMarks
  g_InvalidMarks : mg "InvalidMarks" = some (.ref c_InvalidMarks)
  c_InvalidDeed : Addr
  e_InvalidDeed : ErrC K fI dD c_InvalidDeed
  g_InvalidDeed : mg "InvalidDeed" = some (.ref c_InvalidDeed)
  k_CLICK : Tok
  g_CLICK : mg "CLICK" = some (.str "click" k_CLICK)
  k_RANGE : Tok
  g_RANGE : mg "RANGE" = some (.str "range" k_RANGE)
  z_len : mg "len" = none
  z_set : mg "set" = none
  z_list : mg "list" = none
  z_all : mg "all" = none
  z_zip : mg "zip" = none
  z_enumerate : mg "enumerate" = none
  z_sorted : mg "sorted" = none
  z_min : mg "min" = none
  z_max : mg "max" = none
  z_range : mg "range" = none
  z_sum : mg "sum" = none
  z_tuple : mg "tuple" = none
  z_int : mg "int" = none
  z_abs : mg "abs" = none
theorem ok_init {w : World} {K : PySem.W.Frag} {mg : Str → Option Value} {base : Heap} (T : Txt K mg) : FnOk PR w K mg base CX0 1 T.fI T.dI ["self", "value"] (spErr K T.fI T.dD) := ok_err T.iT (NdefX.nscope_by (by decide +kernel)) rfl rfl rfl (fun env => rfl)
theorem b_init {K : PySem.W.Frag} {mg : Str → Option Value} (T : Txt K mg) : Binds K T.dI ["self", "value"] [] := by
  obtain ⟨oc, od, kV, doc, pm, an, ct, osl, e, lk⟩ := T.iT.ex
  rw [e]
  exact .all fun us hl => match us, hl with | [_, _], _ => rfl
theorem b_check_there {K : PySem.W.Frag} {mg : Str → Option Value} (T : Txt K mg) : Binds K T.d_check_there ["there"] [] := T.f_check_there.binds (ps := ["there"]) fun _ _ _ _ _ _ us hl => match us, hl with | [_], _ => rfl
theorem b_are_marks {K : PySem.W.Frag} {mg : Str → Option Value} (T : Txt K mg) : Binds K T.d_are_marks ["marks"] [] := T.f_are_marks.binds (ps := ["marks"]) fun _ _ _ _ _ _ us hl => match us, hl with | [_], _ => rfl
theorem b_check_marks {K : PySem.W.Frag} {mg : Str → Option Value} (T : Txt K mg) : Binds K T.d_check_marks ["marks"] [] := T.f_check_marks.binds (ps := ["marks"]) fun _ _ _ _ _ _ us hl => match us, hl with | [_], _ => rfl
theorem b_check_marks_there {K : PySem.W.Frag} {mg : Str → Option Value} (T : Txt K mg) : Binds K T.d_check_marks_there ["there", "marks"] [] := T.f_check_marks_there.binds (ps := ["there", "marks"]) fun _ _ _ _ _ _ us hl => match us, hl with | [_, _], _ => rfl
theorem b_check_clicks {K : PySem.W.Frag} {mg : Str → Option Value} (T : Txt K mg) : Binds K T.d_check_clicks ["there", "clicks"] [] := T.f_check_clicks.binds (ps := ["there", "clicks"]) fun _ _ _ _ _ _ us hl => match us, hl with | [_, _], _ => rfl
theorem b_places_of {K : PySem.W.Frag} {mg : Str → Option Value} (T : Txt K mg) : Binds K T.d_places_of ["there"] [] := T.f_places_of.binds (ps := ["there"]) fun _ _ _ _ _ _ us hl => match us, hl with | [_], _ => rfl
theorem b_marked_in {K : PySem.W.Frag} {mg : Str → Option Value} (T : Txt K mg) : Binds K T.d_marked_in ["there", "marks", "anchor", "clicks"] [] := T.f_marked_in.binds (ps := ["there", "marks", "anchor", "clicks"]) fun _ _ _ _ _ _ us hl => match us, hl with | [_, _, _, _], _ => rfl
theorem b_borders_in {K : PySem.W.Frag} {mg : Str → Option Value} (T : Txt K mg) : Binds K T.d_borders_in ["there", "marks"] [] := T.f_borders_in.binds (ps := ["there", "marks"]) fun _ _ _ _ _ _ us hl => match us, hl with | [_, _], _ => rfl
theorem b_blocks_of {K : PySem.W.Frag} {mg : Str → Option Value} (T : Txt K mg) : Binds K T.d_blocks_of ["places"] [] := T.f_blocks_of.binds (ps := ["places"]) fun _ _ _ _ _ _ us hl => match us, hl with | [_], _ => rfl
theorem b_cost_in {K : PySem.W.Frag} {mg : Str → Option Value} (T : Txt K mg) : Binds K T.d_cost_in ["there", "marks"] [] := T.f_cost_in.binds (ps := ["there", "marks"]) fun _ _ _ _ _ _ us hl => match us, hl with | [_, _], _ => rfl
theorem b_check_state {K : PySem.W.Frag} {mg : Str → Option Value} (T : Txt K mg) : Binds K T.d_check_state ["there", "marks", "clicks"] [] := T.f_check_state.binds (ps := ["there", "marks", "clicks"]) fun _ _ _ _ _ _ us hl => match us, hl with | [_, _, _], _ => rfl
theorem b_marked {K : PySem.W.Frag} {mg : Str → Option Value} (T : Txt K mg) : Binds K T.d_marked ["there", "marks", "anchor", "clicks"] [] := T.f_marked.binds (ps := ["there", "marks", "anchor", "clicks"]) fun _ _ _ _ _ _ us hl => match us, hl with | [_, _, _, _], _ => rfl
theorem b_borders {K : PySem.W.Frag} {mg : Str → Option Value} (T : Txt K mg) : Binds K T.d_borders ["there", "marks"] [] := T.f_borders.binds (ps := ["there", "marks"]) fun _ _ _ _ _ _ us hl => match us, hl with | [_, _], _ => rfl
theorem b_cost {K : PySem.W.Frag} {mg : Str → Option Value} (T : Txt K mg) : Binds K T.d_cost ["there", "marks"] [] := T.f_cost.binds (ps := ["there", "marks"]) fun _ _ _ _ _ _ us hl => match us, hl with | [_, _], _ => rfl
theorem b_numbers_of_covers {K : PySem.W.Frag} {mg : Str → Option Value} (T : Txt K mg) : Binds K T.d_numbers_of_covers ["blocks"] [] := T.f_numbers_of_covers.binds (ps := ["blocks"]) fun _ _ _ _ _ _ us hl => match us, hl with | [_], _ => rfl
theorem b_block_cover {K : PySem.W.Frag} {mg : Str → Option Value} (T : Txt K mg) : Binds K T.d_block_cover ["block", "choice"] [] := T.f_block_cover.binds (ps := ["block", "choice"]) fun _ _ _ _ _ _ us hl => match us, hl with | [_, _], _ => rfl
theorem b_cover_in {K : PySem.W.Frag} {mg : Str → Option Value} (T : Txt K mg) : Binds K T.d_cover_in ["there", "marks", "index"] [] := T.f_cover_in.binds (ps := ["there", "marks", "index"]) fun _ _ _ _ _ _ us hl => match us, hl with | [_, _, _], _ => rfl
theorem b_clicks_in {K : PySem.W.Frag} {mg : Str → Option Value} (T : Txt K mg) : Binds K T.d_clicks_in ["cover"] [] := T.f_clicks_in.binds (ps := ["cover"]) fun _ _ _ _ _ _ us hl => match us, hl with | [_], _ => rfl
theorem b_cheapest_in {K : PySem.W.Frag} {mg : Str → Option Value} (T : Txt K mg) : Binds K T.d_cheapest_in ["there", "marks"] [] := T.f_cheapest_in.binds (ps := ["there", "marks"]) fun _ _ _ _ _ _ us hl => match us, hl with | [_, _], _ => rfl
theorem b_cheapest_clicks {K : PySem.W.Frag} {mg : Str → Option Value} (T : Txt K mg) : Binds K T.d_cheapest_clicks ["there", "marks"] [] := T.f_cheapest_clicks.binds (ps := ["there", "marks"]) fun _ _ _ _ _ _ us hl => match us, hl with | [_, _], _ => rfl
theorem b_outside {K : PySem.W.Frag} {mg : Str → Option Value} (T : Txt K mg) : Binds K T.d_outside ["there", "marks"] [] := T.f_outside.binds (ps := ["there", "marks"]) fun _ _ _ _ _ _ us hl => match us, hl with | [_, _], _ => rfl
theorem b_next_marks {K : PySem.W.Frag} {mg : Str → Option Value} (T : Txt K mg) : Binds K T.d_next_marks ["flags", "anchor", "word", "position"] [] := T.f_next_marks.binds (ps := ["flags", "anchor", "word", "position"]) fun _ _ _ _ _ _ us hl => match us, hl with | [_, _, _, _], _ => rfl
theorem b_first_list {K : PySem.W.Frag} {mg : Str → Option Value} (T : Txt K mg) : Binds K T.d_first_list ["flags", "anchor", "goal"] [] := T.f_first_list.binds (ps := ["flags", "anchor", "goal"]) fun _ _ _ _ _ _ us hl => match us, hl with | [_, _, _], _ => rfl
theorem b_fewest {K : PySem.W.Frag} {mg : Str → Option Value} (T : Txt K mg) : Binds K T.d_fewest ["there", "marks", "anchor", "goal"] [] := T.f_fewest.binds (ps := ["there", "marks", "anchor", "goal"]) fun _ _ _ _ _ _ us hl => match us, hl with | [_, _, _, _], _ => rfl
theorem b__law_source {K : PySem.W.Frag} {mg : Str → Option Value} (T : Txt K mg) : Binds K T.d__law_source ["_law_script", "_law_index"] [] := T.f__law_source.binds (ps := ["_law_script", "_law_index"]) fun _ _ _ _ _ _ us hl => match us, hl with | [_, _], _ => rfl
theorem b__law_draw {K : PySem.W.Frag} {mg : Str → Option Value} (T : Txt K mg) : Binds K T.d__law_draw ["_law_source_here", "_law_bound"] [] := T.f__law_draw.binds (ps := ["_law_source_here", "_law_bound"]) fun _ _ _ _ _ _ us hl => match us, hl with | [_, _], _ => rfl
theorem b__law_some {K : PySem.W.Frag} {mg : Str → Option Value} (T : Txt K mg) : Binds K T.d__law_some ["_law_source_here", "_law_things", "_law_size"] [] := T.f__law_some.binds (ps := ["_law_source_here", "_law_things", "_law_size"]) fun _ _ _ _ _ _ us hl => match us, hl with | [_, _, _], _ => rfl
theorem b__law_clicks {K : PySem.W.Frag} {mg : Str → Option Value} (T : Txt K mg) : Binds K T.d__law_clicks ["_law_source_here", "_law_size", "_law_many"] [] := T.f__law_clicks.binds (ps := ["_law_source_here", "_law_size", "_law_many"]) fun _ _ _ _ _ _ us hl => match us, hl with | [_, _, _], _ => rfl
theorem b__law_along_right {K : PySem.W.Frag} {mg : Str → Option Value} (T : Txt K mg) : Binds K T.d__law_along_right ["_law_there", "_law_anchor", "_law_clicks_here"] [] := T.f__law_along_right.binds (ps := ["_law_there", "_law_anchor", "_law_clicks_here"]) fun _ _ _ _ _ _ us hl => match us, hl with | [_, _, _], _ => rfl
theorem b__law_near_right {K : PySem.W.Frag} {mg : Str → Option Value} (T : Txt K mg) : Binds K T.d__law_near_right ["_law_there", "_law_marks"] [] := T.f__law_near_right.binds (ps := ["_law_there", "_law_marks"]) fun _ _ _ _ _ _ us hl => match us, hl with | [_, _], _ => rfl
theorem b__law_both_right {K : PySem.W.Frag} {mg : Str → Option Value} (T : Txt K mg) : Binds K T.d__law_both_right ["_law_there", "_law_marks", "_law_other"] [] := T.f__law_both_right.binds (ps := ["_law_there", "_law_marks", "_law_other"]) fun _ _ _ _ _ _ us hl => match us, hl with | [_, _, _], _ => rfl
theorem b_law {K : PySem.W.Frag} {mg : Str → Option Value} (T : Txt K mg) : Binds K T.d_law ["_law_script"] [] := T.f_law.binds (ps := ["_law_script"]) fun _ _ _ _ _ _ us hl => match us, hl with | [_], _ => rfl

end K76
set_option Elab.async false
set_option pp.maxSteps 1200
set_option linter.all false
set_option maxRecDepth 100000
set_option maxHeartbeats 4000000
namespace K76
open PySem L2 My
theorem at0 {α : Type} {a : α} {l : List α} : atI (a :: l) 0 = some a := atI_nat (j := 0) rfl
theorem at1 {α : Type} {a b : α} {l : List α} : atI (a :: b :: l) 1 = some b := atI_nat (j := 1) rfl
theorem at2 {α : Type} {a b c : α} {l : List α} : atI (a :: b :: c :: l) 2 = some c := atI_nat (j := 2) rfl
theorem mapI_get {ts : List Int} {i : Nat} {x : V} (h : (ts.map V.int)[i]? = some x) : ∃ t, ts[i]? = some t ∧ x = V.int t := by
  rw [List.getElem?_map] at h
  cases e : ts[i]? with
  | none =>
    rw [e] at h
    cases h
  | some t =>
    rw [e] at h
    exact ⟨t, rfl, (Option.some.inj h).symm⟩
/-! ### clicks and what they do -/
abbrev Cl := Str × Int
def IsCl (K : PySem.W.Frag) (H : Hp) (v : V) (c : Cl) : Prop := ∃ q, v = .ref q ∧ SqT K H q [.str c.1, .int c.2]
def Cls (K : PySem.W.Frag) (H : Hp) (vs : List V) (cs : List Cl) : Prop := vs.length = cs.length ∧ ∀ (i : Nat) v c, vs[i]? = some v → cs[i]? = some c → IsCl K H v c
theorem Cls.ex {K : PySem.W.Frag} {H H' : Hp} {vs : List V} {cs : List Cl} (e : Ex H H') (h : Cls K H vs cs) : Cls K H' vs cs := ⟨h.1, fun i v c h1 h2 => by
  obtain ⟨q, e1, e2⟩ := h.2 i v c h1 h2
  exact ⟨q, e1, Evl.ex_t e e2⟩⟩
theorem Cls.get {K : PySem.W.Frag} {H : Hp} {vs : List V} {cs : List Cl} (h : Cls K H vs cs) {i : Nat} {v : V} (hi : vs[i]? = some v) : ∃ c q, cs[i]? = some c ∧ v = .ref q ∧ SqT K H q [.str c.1, .int c.2] := by
  have hlt : i < vs.length := (List.getElem?_eq_some_iff.mp hi).1
  have hc : cs[i]? = some (cs[i]'(by rw [← h.1]; exact hlt)) := List.getElem?_eq_getElem _
  obtain ⟨q, e1, e2⟩ := h.2 i v _ hi hc
  exact ⟨_, q, hc, e1, e2⟩
def ClOk (n : Nat) (cs : List Cl) : Prop := ∀ c ∈ cs, (c.1 = "click" ∨ c.1 = "range") ∧ 0 ≤ c.2 ∧ c.2 < n
def anV : Option Int → V
  | none => .non
  | some n => .int n
abbrev State := (Int → Bool) × Option Int
def rowAt (there : List Int) (p : Int) : Int := there.getD p.toNat 0
/-- the rows between two places, both within -/
def span (there : List Int) (a b : Nat) : List Int := (there.drop (min a b)).take (max a b + 1 - min a b)
def step (there : List Int) (st : State) (c : Cl) : State :=
  match (if c.1 = "range" then st.2 else none) with
  | some an => if an ∈ there then (fun r => if r ∈ span there (there.idxOf an) c.2.toNat then st.1 an else st.1 r, st.2) else (fun r => if r = rowAt there c.2 then !st.1 r else st.1 r, some (rowAt there c.2))
  | none => (fun r => if r = rowAt there c.2 then !st.1 r else st.1 r, some (rowAt there c.2))
def done (there marks : List Int) (an : Option Int) (cs : List Cl) : State := cs.foldl (step there) (fun r => decide (r ∈ marks), an)
def sp_check_there (K : PySem.W.Frag) : Sp := fun vs H Q _ => ∃ (a : Addr) (ns : List Int), vs = [.ref a] ∧ SqL K H a (ns.map V.int) ∧ ns.Nodup ∧ ns.length ≤ 1000 ∧ Q .non H
def sp_are_marks (K : PySem.W.Frag) : Sp := fun vs H Q _ => ∃ (a : Addr) (ms : List Int), vs = [.ref a] ∧ SqL K H a (ms.map V.int) ∧ ms.Pairwise (· < ·) ∧ ms.length ≤ 1000 ∧ Evl.RetV (.bl true) H Q
def sp_check_marks (K : PySem.W.Frag) : Sp := fun vs H Q _ => ∃ (a : Addr) (ms : List Int), vs = [.ref a] ∧ SqL K H a (ms.map V.int) ∧ ms.Pairwise (· < ·) ∧ ms.length ≤ 1000 ∧ Evl.RetV .non H Q
def sp_check_clicks (K : PySem.W.Frag) : Sp := fun vs H Q _ => ∃ (a b : Addr) (ns : List Int) (xs : List V) (cs : List Cl), vs = [.ref a, .ref b] ∧ SqL K H a (ns.map V.int) ∧ SqL K H b xs ∧ Cls K H xs cs ∧ ClOk ns.length cs ∧ Evl.RetV .non H Q
def sp_check_state (K : PySem.W.Frag) : Sp := fun vs H Q _ => ∃ (a m b : Addr) (ns ms : List Int) (xs : List V) (cs : List Cl), vs = [.ref a, .ref m, .ref b] ∧ SqL K H a (ns.map V.int) ∧ SqL K H m (ms.map V.int) ∧ SqL K H b xs ∧ ns.Nodup ∧ ns.length ≤ 1000 ∧ ms.Pairwise (· < ·) ∧ ms.length ≤ 1000 ∧ Cls K H xs cs ∧ ClOk ns.length cs ∧ Evl.RetV .non H Q
def sp_places_of (K : PySem.W.Frag) : Sp := fun vs H Q _ => ∃ (a : Addr) (ns : List Int), vs = [.ref a] ∧ SqL K H a (ns.map V.int) ∧ ns.Nodup ∧ ns.length ≤ 1000 ∧ ∀ p H', H p = none → Ex H H' → H' p = some (.dK (kvsOf ns fun n => .int (ns.idxOf n : Nat))) → Q (.ref p) H'
section
variable {w : World} {K : PySem.W.Frag} {mg : Str → Option Value} {base : Heap}
theorem nef {a b : V} (h : a = b) : (!decide (a = b)) = false := by
  rw [decide_eq_true h]
  rfl
theorem ok_check_there (T : Txt K mg) : FnOk PR w K mg base (L2.CX PR w) 3 T.a_check_there T.d_check_there ["there"] (sp_check_there K) := by
  refine T.f_check_there.okX sc_check_there (fun vs H Q E h => ?_) (fun cdv A outer s H vs Q E hr h => ?_)
  · obtain ⟨a, ns, rfl, _⟩ := h
    rfl
  · obtain ⟨a, ns, rfl, ha, nd, hl, k⟩ := h
    refine ⟨_, (pss_one (ps_if (pt_cmpR op_ne (RZ.pe_lenSetI (by rfl) T.z_len (by rfl) T.z_set (pv 0)) (pe_callB call_len_seq (by rfl) T.z_len PySem.boot_len (pa_cons (pv 0) pa_nil)) (nomark _)) (pss_one (ps_raise rfl (takes_of rfl rfl rfl rfl) (pmk_err (ok_init T) (b_init T) T.e_InvalidRows (hr.mono (by decide)) (by rfl) T.g_InvalidRows (pa_cons (pe_callTy call_listG (by rfl) T.z_list (by decide +kernel) (pa_cons (pv 0) pa_nil)) pa_nil)))) pss_nil)), ?_⟩
    refine ⟨_, rfl, a, ns, rfl, ha, nd, by omega, _, rfl, _, _, rfl, .inl ha, rfl, _, rfl, ifF (nef (by rw [List.length_map])) ?_⟩
    exact k
theorem ok_are_marks (T : Txt K mg) : FnOk PR w K mg base CX0 1 T.a_are_marks T.d_are_marks ["marks"] (sp_are_marks K) := by
  refine T.f_are_marks.ok sc_are_marks (fun vs H Q E h => ?_) (fun cdv A outer s H vs Q E hr h => ?_)
  · obtain ⟨a, ms, rfl, _⟩ := h
    rfl
  · obtain ⟨a, ms, rfl, ha, pw, hl, k⟩ := h
    refine ⟨_, (pss_one (ps_ret (pe_callB (cr_all rfl) (by rfl) T.z_all (by decide +kernel) (pa_cons (pe_lc (own := [("one", 1), ("other", 2)]) (g := (gTup K 2 (gCons (gName 1) (gCons (gName 2) gNil)))) (by rfl) sc_are_marks.nd (pi_zip (by rfl) T.z_zip (pa_cons (pv 0) (pa_cons (pe_slice sl_listG (pv 0) (po_some pe_int) po_none) pa_nil))) (blkOk_by (own := [("one", 1), ("other", 2)]) (N := ["marks", "one", "other"]) (sc := (defScope s_are_marks)) (by decide +kernel)) (fun _ _ _ _ _ => (pg_tup rfl (pgs_cons (pg_name (i := 1) sc_are_marks.nd rfl (by first | exact Or.inl rfl | exact Or.inr rfl)) (pgs_cons (pg_name (i := 2) sc_are_marks.nd rfl (by first | exact Or.inl rfl | exact Or.inr rfl)) pgs_nil)))) (fun _ _ _ _ _ => pts_nil) (fun _ _ _ _ _ => (pe_cmpR op_lt (pv 1) (pv 2) (nomark _)))) pa_nil)))), ?_⟩
    have ec : cutV (ms.map V.int) (some 1) none = (ms.drop 1).map V.int := by
      rw [List.map_drop]
      exact cut_from _ 1
    refine ⟨_, rfl, _, rfl, _, rfl, _, _, rfl, ha, fun p1 H1 n1 e1 h1 => ?_⟩
    rw [ec] at h1
    have ha1 := Evl.ex_l e1 ha
    refine ⟨a, p1, _, _, rfl, ha1, sqI h1, fun D hD => lc_it (walk_zip (K := K) (a := a) (b := p1) (xs := ms.map V.int) (ys := (ms.drop 1).map V.int) rfl) (fun i H' => Ex H1 H' ∧ H' D = some (.lst ((List.replicate i true).map V.bl))) ⟨Evl.Ex.new hD, upd_same⟩ (fun i H' _ z => ⟨Evl.ex_l z.1 ha1, sqI (z.1 _ _ h1)⟩) ?_ ?_⟩
    · rintro i v H2 H3 hi ⟨e2, d2⟩ ⟨q, x, y, rfl, nq, rfl, hx, hy⟩
      obtain ⟨t, ht, rfl⟩ := mapI_get hx
      obtain ⟨u, hu, rfl⟩ := mapI_get hy
      rw [List.getElem?_drop] at hu
      have e3 : Ex H2 (upd H2 q (.tup [.int t, .int u])) := Evl.Ex.new nq
      have hp : upd H2 q (.tup [.int t, .int u]) q = some (.tup [.int t, .int u]) := upd_same
      generalize upd H2 q (.tup [.int t, .int u]) = H4 at e3 hp ⊢
      have lt : t < u := by
        obtain ⟨i1, e1⟩ := List.getElem?_eq_some_iff.mp ht
        obtain ⟨i2, e2⟩ := List.getElem?_eq_some_iff.mp hu
        rw [← e1, ← e2]
        exact List.pairwise_iff_getElem.mp pw i (1 + i) i1 i2 (by omega)
      refine ⟨_, _, rfl, sqT hp, rfl, _, _, rfl, _, _, rfl, rfl, rfl, ?_⟩
      refine ⟨_, rfl, _, rfl, _, _, rfl, rfl, _, e3 _ _ d2, ?_, ?_⟩
      · rw [List.length_map, List.length_replicate]
        have : i < (ms.map V.int).length := Nat.lt_of_lt_of_le hi (Nat.min_le_left _ _)
        rw [List.length_map] at this
        exact Nat.lt_of_lt_of_le (show i < 1000 by omega) (by decide)
      · refine ⟨Evl.Ex.mut (e2.trans e3) hD, ?_⟩
        rw [upd_same, List.replicate_succ', List.map_append]
        show some (HO.lst (_ ++ [V.bl (decide (t < u))])) = _
        rw [decide_eq_true lt]
        rfl
    · rintro H2 ⟨e2, d2⟩
      refine ⟨D, _, rfl, sqI d2, ?_⟩
      rw [List.all_replicate]
      have := k _ (e1.trans e2)
      split
      · exact this
      · exact this
theorem ok_check_marks (T : Txt K mg) : FnOk PR w K mg base (L2.CX PR w) 3 T.a_check_marks T.d_check_marks ["marks"] (sp_check_marks K) := by
  refine T.f_check_marks.okX sc_check_marks (fun vs H Q E h => ?_) (fun cdv A outer s H vs Q E hr h => ?_)
  · obtain ⟨a, ms, rfl, _⟩ := h
    rfl
  · obtain ⟨a, ms, rfl, ha, pw, hl, k⟩ := h
    refine ⟨_, (pss_one (ps_if (pt_not (pt_val (pe_call (ok_are_marks T) (hr.mono (by decide)) (by rfl) T.g_are_marks T.f_are_marks.kp (b_are_marks T) .nil pass0 (pa_cons (pv 0) pa_nil)))) (pss_one (ps_raise rfl (takes_of rfl rfl rfl rfl) (pmk_err (ok_init T) (b_init T) T.e_InvalidMarks (hr.mono (by decide)) (by rfl) T.g_InvalidMarks (pa_cons (pe_callTy call_listG (by rfl) T.z_list (by decide +kernel) (pa_cons (pv 0) pa_nil)) pa_nil)))) pss_nil)), ?_⟩
    refine ⟨_, rfl, a, ms, rfl, ha, pw, hl, fun H1 e1 => ?_⟩
    exact ⟨_, rfl, iteF (k _ e1)⟩
theorem ok_check_clicks (T : Txt K mg) : FnOk PR w K mg base (L2.CX PR w) 3 T.a_check_clicks T.d_check_clicks ["there", "clicks"] (sp_check_clicks K) := by
  refine T.f_check_clicks.okX sc_check_clicks (fun vs H Q E h => ?_) (fun cdv A outer s H vs Q E hr h => ?_)
  · obtain ⟨a, b, ns, xs, cs, rfl, _⟩ := h
    rfl
  · obtain ⟨a, b, ns, xs, cs, rfl, ha, hb, hc, ok, k⟩ := h
    refine ⟨_, (pss_cons (ps_for (passes_of rfl) rfl (pi_list (pv 1)) (pg_name (i := 2) sc_check_clicks.nd rfl (by first | exact Or.inl rfl | exact Or.inr rfl)) (pss_one (ps_if (PW.pt (pw_or (pt_cmpR op_ne (pe_callB call_len_seq (by rfl) T.z_len PySem.boot_len (pa_cons (pv 2) pa_nil)) pe_int (nomark _)) (pw_or1 (pt_cmpR op_notIn_seq (pe_ix ix_tup (pv 2) pe_int (fun _ _ => rfl)) (pe_tupG (pa_cons (pe_glob (v := .str "click") rfl T.g_CLICK ⟨_, rfl⟩) (pa_cons (pe_glob (v := .str "range") rfl T.g_RANGE ⟨_, rfl⟩) pa_nil))) (by rfl))))) (pss_one (ps_raise rfl (takes_of rfl rfl rfl rfl) (pmk_err (ok_init T) (b_init T) T.e_InvalidDeed (hr.mono (by decide)) (by rfl) T.g_InvalidDeed (pa_cons (pv 2) pa_nil)))) pss_nil))) (pss_one (ps_for (passes_of rfl) rfl (pi_list (pv 1)) (pg_tup rfl (pgs_cons (pg_name (i := 3) sc_check_clicks.nd rfl (by first | exact Or.inl rfl | exact Or.inr rfl)) (pgs_cons (pg_name (i := 4) sc_check_clicks.nd rfl (by first | exact Or.inl rfl | exact Or.inr rfl)) pgs_nil))) (pss_one (ps_if (pt_not (pt_chain op_le op_lt pe_int (pv 4) (pe_callB call_len_seq (by rfl) T.z_len PySem.boot_len (pa_cons (pv 0) pa_nil)))) (pss_one (ps_raise rfl (takes_of rfl rfl rfl rfl) (pmk_err (ok_init T) (b_init T) T.e_InvalidPosition (hr.mono (by decide)) (by rfl) T.g_InvalidPosition (pa_cons (pv 4) pa_nil)))) pss_nil))))), ?_⟩
    refine ⟨_, rfl, b, rfl, ⟨_, hb⟩, for_list (K := K) (a := b) (xs := xs) (fun i σ H' => ∃ v, σ = [some (.ref a), some (.ref b), v, none, none] ∧ Ex H H') ⟨_, rfl, Evl.Ex.refl _⟩ (fun i σ H' _ ⟨_, _, e⟩ => Evl.ex_l e hb) ?_ ?_⟩
    · rintro i x σ H' hi ⟨v, rfl, e⟩
      obtain ⟨c, q, hci, rfl, hq⟩ := (hc.ex e).get hi
      have cok := ok c (List.mem_of_getElem? hci)
      refine ⟨_, rfl, _, _, rfl, .inr hq, rfl, _, rfl, ifF rfl ?_⟩
      refine ⟨_, rfl, _, _, _, _, rfl, rfl, hq, at0, (by show 2 ≤ sizeLine; decide), fun p1 H1 n1 e1 h1 => ?_⟩
      refine ⟨_, _, rfl, .inr (sqT h1), rfl, rfl, _, rfl, ifF ?_ ?_⟩
      · rcases cok.1 with z | z
        · rw [z]
          decide +kernel
        · rw [z]
          decide +kernel
      · exact ⟨_, rfl, e.trans e1⟩
    · rintro σ H0 ⟨v, rfl, e0⟩
      refine ⟨_, rfl, b, rfl, ⟨_, Evl.ex_l e0 hb⟩, for_list (K := K) (a := b) (xs := xs) (fun i σ H' => ∃ v v3 v4, σ = [some (.ref a), some (.ref b), v, v3, v4] ∧ Ex H H') ⟨_, _, _, rfl, e0⟩ (fun i σ H' _ ⟨_, _, _, _, e⟩ => Evl.ex_l e hb) ?_ ?_⟩
      · rintro i x σ H' hi ⟨v, v3, v4, rfl, e⟩
        obtain ⟨c, q, hci, rfl, hq⟩ := (hc.ex e).get hi
        have cok := ok c (List.mem_of_getElem? hci)
        refine ⟨_, _, rfl, hq, rfl, _, _, rfl, _, _, rfl, rfl, ?_⟩
        refine ⟨_, rfl, _, _, rfl, rfl, _, rfl, ifT (decide_eq_true cok.2.1) ?_⟩
        refine ⟨_, rfl, _, _, rfl, .inl (Evl.ex_l e ha), _, _, rfl, rfl, _, rfl, ?_⟩
        have lt : c.2 < ((ns.map V.int).length : Int) := by
          rw [List.length_map]
          exact cok.2.2
        refine ifF (by rw [decide_eq_true lt]; rfl) ?_
        exact ⟨_, _, _, rfl, e⟩
      · rintro σ H' ⟨v, v3, v4, rfl, e⟩
        exact k _ e
theorem ok_check_state (T : Txt K mg) : FnOk PR w K mg base (L2.CX PR w) 4 T.a_check_state T.d_check_state ["there", "marks", "clicks"] (sp_check_state K) := by
  refine T.f_check_state.okX sc_check_state (fun vs H Q E h => ?_) (fun cdv A outer s H vs Q E hr h => ?_)
  · obtain ⟨a, m, b, ns, ms, xs, cs, rfl, _⟩ := h
    rfl
  · obtain ⟨a, m, b, ns, ms, xs, cs, rfl, ha, hm, hb, nd, hl, pw, hl2, hc, ok, k⟩ := h
    refine ⟨_, (pss_cons (ps_expr (pe_call (ok_check_there T) (hr.mono (by decide)) (by rfl) T.g_check_there T.f_check_there.kp (b_check_there T) .nil passX (pa_cons (pv 0) pa_nil))) (pss_cons (ps_expr (pe_call (ok_check_marks T) (hr.mono (by decide)) (by rfl) T.g_check_marks T.f_check_marks.kp (b_check_marks T) .nil passX (pa_cons (pv 1) pa_nil))) (pss_one (ps_expr (pe_call (ok_check_clicks T) (hr.mono (by decide)) (by rfl) T.g_check_clicks T.f_check_clicks.kp (b_check_clicks T) .nil passX (pa_cons (pv 0) (pa_cons (pv 2) pa_nil))))))), ?_⟩
    refine ⟨_, rfl, a, ns, rfl, ha, nd, hl, ?_⟩
    refine ⟨_, rfl, m, ms, rfl, hm, pw, hl2, fun H1 e1 => ?_⟩
    refine ⟨_, rfl, _, rfl, a, b, ns, xs, cs, rfl, Evl.ex_l e1 ha, Evl.ex_l e1 hb, hc.ex e1, ok, fun H2 e2 => ?_⟩
    exact k _ (e1.trans e2)
end
end K76
set_option Elab.async false
set_option pp.maxSteps 1200
set_option linter.all false
set_option maxRecDepth 100000
set_option maxHeartbeats 4000000
namespace K76
open PySem L2 My
def sp_marked_in (K : PySem.W.Frag) : Sp := fun vs H Q _ => ∃ (a m b : Addr) (ns ms : List Int) (xs : List V) (cs : List Cl) (an : Option Int), vs = [.ref a, .ref m, anV an, .ref b] ∧ SqL K H a (ns.map V.int) ∧ SqL K H m (ms.map V.int) ∧ SqL K H b xs ∧ ns.Nodup ∧ ns.length ≤ 1000 ∧ ms.Nodup ∧ ms.length ≤ 1000 ∧ Cls K H xs cs ∧ ClOk ns.length cs ∧
  ∀ (p q : Addr) (H' : Hp) (rs : List Int), H p = none → Ex H H' → p ≠ q → H q = none → H' q = some (.tup [.ref p, anV (done ns ms an cs).2]) → H' p = some (.lst (rs.map V.int)) → rs.Pairwise (· < ·) → (∀ r, r ∈ rs ↔ (done ns ms an cs).1 r = true) → (∀ r ∈ rs, r ∈ ms ++ ns) → Q (.ref q) H'
theorem span_take {there : List Int} {a b i : Nat} {x : Int} (h : (span there a b)[i]? = some x) : x ∈ there := by
  have := List.mem_of_getElem? h
  exact List.mem_of_mem_drop (List.mem_of_mem_take this)
section
variable {w : World} {K : PySem.W.Frag} {mg : Str → Option Value} {base : Heap}
theorem ok_places_of (T : Txt K mg) : FnOk PR w K mg base CX0 1 T.a_places_of T.d_places_of ["there"] (sp_places_of K) := by
  refine T.f_places_of.ok sc_places_of (fun vs H Q E h => ?_) (fun cdv A outer s H vs Q E hr h => ?_)
  · obtain ⟨a, ns, rfl, _⟩ := h
    rfl
  · obtain ⟨a, ns, rfl, ha, nd, hl, k⟩ := h
    refine ⟨_, (pss_one (ps_ret (pe_dc (own := [("place", 1), ("row", 2)]) (g := (gTup K 2 (gCons (gName 1) (gCons (gName 2) gNil)))) (by rfl) sc_places_of.nd (pi_enum (by rfl) T.z_enumerate (pa_cons (pv 0) pa_nil)) (blkOk_by (own := [("place", 1), ("row", 2)]) (N := ["there", "place", "row"]) (sc := defScope s_places_of) (by decide +kernel)) (fun _ _ _ _ _ => (pg_tup rfl (pgs_cons (pg_name (i := 1) sc_places_of.nd rfl (by first | exact Or.inl rfl | exact Or.inr rfl)) (pgs_cons (pg_name (i := 2) sc_places_of.nd rfl (by first | exact Or.inl rfl | exact Or.inr rfl)) pgs_nil)))) (fun _ _ _ _ _ => pts_nil) (fun _ _ _ _ _ => (pv 2)) (fun _ _ _ _ _ => (pv 1))))), ?_⟩
    refine ⟨_, rfl, a, _, rfl, ha, fun D hD => dc_it (walk_enum (K := K) (a := a) (xs := ns.map V.int)) (fun i H' => Ex H H' ∧ H' D = some (.dK (kvsOf (ns.take i) fun n => .int (ns.idxOf n : Nat)))) ⟨Evl.Ex.new hD, upd_same⟩ (fun i H' _ z => Evl.ex_l z.1 ha) ?_ ?_⟩
    · rintro i v H2 H3 hi ⟨e2, d2⟩ ⟨q, x, y, rfl, nq, rfl, hx, hy⟩
      obtain ⟨t, ht, rfl⟩ := mapI_get hy
      cases hx
      have e3 : Ex H2 (upd H2 q (.tup [.int (i : Nat), .int t])) := Evl.Ex.new nq
      have hp : upd H2 q (.tup [.int (i : Nat), .int t]) q = some (.tup [.int (i : Nat), .int t]) := upd_same
      generalize upd H2 q (.tup [.int (i : Nat), .int t]) = H4 at e3 hp ⊢
      refine ⟨_, _, rfl, sqT hp, rfl, _, _, rfl, _, _, rfl, rfl, rfl, ?_⟩
      refine ⟨_, rfl, _, rfl, _, Sum.inl t, rfl, e3 _ _ d2, ?_, Evl.Ex.mut (e2.trans e3) hD, ?_⟩
      · rw [kvs_len, List.length_take]
        exact Nat.lt_of_le_of_lt (Nat.min_le_right _ _) (Nat.lt_of_le_of_lt hl (by decide))
      · rw [upd_same, take_snoc ht, ← kvs_snoc _ _ _ (nodup_take nd i ht), idx_of nd ht]
    · rintro H2 ⟨e2, d2⟩
      rw [List.length_map, List.take_length] at d2
      exact k D H2 hD e2 d2
/-- the anchor of a range -/
def rng (there : List Int) (word : Str) (an : Option Int) : Option Int := match an with
  | some n => if word = "range" ∧ n ∈ there then some n else none
  | none => none
theorem rng_some {there : List Int} {word : Str} {an : Option Int} {n : Int} (h : rng there word an = some n) : word = "range" ∧ an = some n ∧ n ∈ there := by
  unfold rng at h
  cases an with
  | none => cases h
  | some m =>
    by_cases c : word = "range" ∧ m ∈ there
    · simp only [if_pos c] at h
      cases h
      exact ⟨c.1, rfl, c.2⟩
    · simp only [if_neg c] at h
      cases h
theorem step_rng {there : List Int} {f : Int → Bool} {an : Option Int} {word : Str} {pos n : Int} (h : rng there word an = some n) :
    step there (f, an) (word, pos) = (fun r => if r ∈ span there (there.idxOf n) pos.toNat then f n else f r, an) := by
  obtain ⟨rfl, rfl, hm⟩ := rng_some h
  show (if n ∈ there then _ else _) = _
  rw [if_pos hm]
theorem step_cl {there : List Int} {f : Int → Bool} {an : Option Int} {word : Str} {pos : Int} (h : rng there word an = none) :
    step there (f, an) (word, pos) = (fun r => if r = rowAt there pos then !f r else f r, some (rowAt there pos)) := by
  unfold rng at h
  unfold step
  cases an with
  | none =>
    have : (if word = "range" then (none : Option Int) else none) = none := by split <;> rfl
    simp only [this]
  | some m =>
    by_cases c : word = "range"
    · by_cases c2 : m ∈ there
      · simp only [if_pos (And.intro c c2)] at h
        cases h
      · simp only [if_pos c, if_neg c2]
    · simp only [if_neg c]
theorem rng_isSome (there : List Int) (word : Str) (an : Option Int) : (rng there word an).isSome = (decide (word = "range") && an.any fun n => decide (n ∈ there)) := by
  unfold rng
  cases an with
  | none => simp
  | some m =>
    by_cases c : word = "range" ∧ m ∈ there
    · simp [if_pos c, c.1, c.2]
    · rw [Bool.eq_iff_iff]
      simp [if_neg c]
      exact fun h1 h2 => c ⟨h1, h2⟩
/-- what stands while clicks are done -/
def MInv (K : PySem.W.Frag) (a m b pd fd : Addr) (ns ms : List Int) (st : State) (H1 : Hp) (σ : L2.St) (H' : Hp) : Prop :=
  ∃ w6 w7 w8 w9 w10 w11 w12 ks, σ = [some (.ref a), some (.ref m), some (anV st.2), some (.ref b), some (.ref pd), some (.ref fd), w6, w7, w8, w9, w10, w11, w12] ∧ Ex H1 H' ∧ H' fd = some (.dK (kvsOf ks tt)) ∧ FdOk st.1 (ms ++ ns) ks
theorem at_row {ns : List Int} {p : Int} (h0 : 0 ≤ p) (h1 : p < ns.length) : atI (ns.map V.int) p = some (.int (rowAt ns p)) := by
  refine at_of (j := p.toNat) (by omega) ?_
  rw [List.getElem?_map, List.getElem?_eq_getElem (by omega)]
  show some (V.int _) = some (V.int (ns.getD p.toNat 0))
  rw [List.getD_eq_getElem?_getD, List.getElem?_eq_getElem (by omega)]
  rfl
theorem row_mem {ns : List Int} {p : Int} (h0 : 0 ≤ p) (h1 : p < ns.length) : rowAt ns p ∈ ns := by
  show ns.getD p.toNat 0 ∈ ns
  rw [List.getD_eq_getElem?_getD, List.getElem?_eq_getElem (show p.toNat < ns.length by omega)]
  exact List.getElem_mem _
theorem big {f : Int → Bool} {ms ns ks : List Int} (h : FdOk f (ms ++ ns) ks) (h1 : ms.length ≤ 1000) (h2 : ns.length ≤ 1000) (g : Int → V) : (kvsOf ks g).length < sizeLine := by
  rw [kvs_len]
  have := h.len
  rw [List.length_append] at this
  exact Nat.lt_of_le_of_lt (show ks.length ≤ 2000 by omega) (by decide)
theorem ok_marked_in (T : Txt K mg) : FnOk PR w K mg base CX0 2 T.a_marked_in T.d_marked_in ["there", "marks", "anchor", "clicks"] (sp_marked_in K) := by
  refine T.f_marked_in.ok sc_marked_in (fun vs H Q E h => ?_) (fun cdv A outer s H vs Q E hr h => ?_)
  · obtain ⟨a, m, b, ns, ms, xs, cs, an, rfl, _⟩ := h
    rfl
  · obtain ⟨a, m, b, ns, ms, xs, cs, an, rfl, ha, hm, hb, nd, hl, nm, hlm, hc, ok, k⟩ := h
    refine ⟨_, (pss_cons (ps_set (i := 4) sc_marked_in.nd rfl (by first | exact Or.inl rfl | exact Or.inr rfl) (pe_call (ok_places_of T) (hr.mono (by decide)) (by rfl) T.g_places_of T.f_places_of.kp (b_places_of T) .nil pass0 (pa_cons (pv 0) pa_nil))) (pss_cons (ps_setDc (i := 5) (own := [("row", 8)]) (g := (gName 8)) (by rfl) sc_marked_in.nd rfl rfl (sw_trueD rfl rfl rfl (by decide +kernel)) (pi_list (pv 1)) (blkOk_by (own := [("row", 8)]) (N := ["there", "marks", "anchor", "clicks", "places", "found", "word", "position", "row", "first", "last", "is_marked", "other"]) (sc := defScope s_marked_in) (by decide +kernel)) (fun _ _ _ _ _ => (pg_name (i := 8) sc_marked_in.nd rfl (by first | exact Or.inl rfl | exact Or.inr rfl))) (fun _ _ _ _ _ => pts_nil) (fun _ _ _ _ _ => (pv 8)) (fun _ _ _ _ _ => pe_bl)) (pss_cons (ps_for PassesOwn.never rfl (pi_list (pv 3)) (pg_tup rfl (pgs_cons (pg_name (i := 6) sc_marked_in.nd rfl (by first | exact Or.inl rfl | exact Or.inr rfl)) (pgs_cons (pg_name (i := 7) sc_marked_in.nd rfl (by first | exact Or.inl rfl | exact Or.inr rfl)) pgs_nil))) (pss_cons (ps_set (i := 8) sc_marked_in.nd rfl (by first | exact Or.inl rfl | exact Or.inr rfl) (pe_ix ix_list (pv 0) (pv 7) (fun _ _ => rfl))) (pss_one (ps_if (pt_cut (PW.pt (pw_and (pt_cmpR op_eq (pv 6) (pe_glob (v := .str "range") rfl T.g_RANGE ⟨_, rfl⟩) (nomark _)) (pw_and1 (pt_cmp (pc_dinN (hu_of hr) (pv 2) (pv 4))))))) (pss_cons (ps_par (by rfl) sc_marked_in.nd rfl rfl (by decide) rfl rfl (i := 9) (j := 10) (pa_cons (pe_callB (call_min2 rfl) (by rfl) T.z_min (by decide +kernel) (pa_cons (pe_dget (hu_of hr) (pv 4) (pv 2) (fun _ _ => rfl)) (pa_cons (pv 7) pa_nil))) (pa_cons (pe_callB (call_max2 rfl) (by rfl) T.z_max (by decide +kernel) (pa_cons (pe_dget (hu_of hr) (pv 4) (pv 2) (fun _ _ => rfl)) (pa_cons (pv 7) pa_nil))) pa_nil)) (by rfl)) (pss_cons (ps_set (i := 11) sc_marked_in.nd rfl (by first | exact Or.inl rfl | exact Or.inr rfl) (pe_cmp (pc_dinN (hu_of hr) (pv 2) (pv 5)))) (pss_one (ps_for PassesOwn.never rfl (pi_list (pe_slice sl_listG (pv 0) (po_some (pv 9)) (po_some (pe_op op_add (pv 10) pe_int)))) (pg_name (i := 12) sc_marked_in.nd rfl (by first | exact Or.inl rfl | exact Or.inr rfl)) (pss_one (ps_if (pt_val (pv 11)) (pss_one (ps_dput (hu_of hr) (pv 5) (pv 12) pe_bl rfl)) (pss_one (ps_expr (pe_dpop2 (pv 5) (pv 12) pe_non ⟨rfl, rfl, rfl, rfl⟩))))))))) (pss_cons (ps_cut (ps_if (pt_cmp (pc_dinN (hu_of hr) (pv 8) (pv 5))) (pss_one (ps_ddel (pv 5) (pv 8))) (pss_one (ps_dput (hu_of hr) (pv 5) (pv 8) pe_bl rfl)))) (pss_one (ps_set (i := 2) sc_marked_in.nd rfl (by first | exact Or.inl rfl | exact Or.inr rfl) (pv 8)))))))) (pss_one (ps_ret (pe_tupG (pa_cons (pe_callB (cr_sortedD rfl) (by rfl) T.z_sorted (by decide +kernel) (pa_cons (pv 5) pa_nil)) (pa_cons (pv 2) pa_nil)))))))), ?_⟩
    -- places = places_of(there)
    refine ⟨_, rfl, a, ns, rfl, ha, nd, hl, fun pd H1 npd e1 hpd => ?_⟩
    -- found = {row: True for row in marks}
    refine ⟨_, rfl, m, rfl, ⟨_, Evl.ex_l e1 hm⟩, fun fd hfd => dc_it (walk_list (K := K) (a := m) (xs := ms.map V.int)) (fun i H' => Ex H1 H' ∧ H' fd = some (.dK (kvsOf (ms.take i) tt))) ⟨Evl.Ex.new hfd, upd_same⟩ (fun i H' _ z => Evl.ex_l (e1.trans z.1) hm) ?_ ?_⟩
    · rintro i v H2 H3 hi ⟨e2, d2⟩ ⟨rfl, hx⟩
      obtain ⟨t, ht, rfl⟩ := mapI_get hx
      refine ⟨rfl, ?_⟩
      refine ⟨_, rfl, _, Sum.inl t, rfl, d2, ?_, Evl.Ex.mut e2 hfd, ?_⟩
      · rw [kvs_len, List.length_take]
        exact Nat.lt_of_le_of_lt (Nat.min_le_right _ _) (Nat.lt_of_le_of_lt hlm (by decide))
      · rw [upd_same, take_snoc ht, ← kvs_snoc _ _ _ (nodup_take nm i ht)]
    · rintro H2 ⟨e2, d2⟩
      rw [List.length_map, List.take_length] at d2
      have npf : pd ≠ fd := ne_of_none hpd hfd
      -- for word, position in clicks:
      refine ⟨_, rfl, b, rfl, ⟨_, Evl.ex_l (e1.trans e2) hb⟩, for_list (K := K) (a := b) (xs := xs) (fun i σ H' => MInv K a m b pd fd ns ms ((cs.take i).foldl (step ns) (fun r => decide (r ∈ ms), an)) H1 σ H') ?_ ?_ ?_ ?_⟩
      · exact ⟨_, _, _, _, _, _, _, ms, rfl, e2, d2, nm, fun r => by simp, fun r hr => List.mem_append_left _ hr⟩
      · rintro i σ H' _ ⟨_, _, _, _, _, _, _, _, _, e, _⟩
        exact Evl.ex_l (e1.trans e) hb
      · rintro i x σ H' hi ⟨w6, w7, w8, w9, w10, w11, w12, ks, rfl, e, d, fok⟩
        obtain ⟨c, q, hci, rfl, hq⟩ := (hc.ex (e1.trans e)).get hi
        have cok := ok c (List.mem_of_getElem? hci)
        rw [foldl_take hci]
        generalize (cs.take i).foldl (step ns) (fun r => decide (r ∈ ms), an) = st at fok ⊢
        obtain ⟨f, an'⟩ := st
        obtain ⟨word, pos⟩ := c
        change FdOk f (ms ++ ns) ks at fok
        refine ⟨_, _, rfl, hq, rfl, _, _, rfl, _, _, rfl, rfl, ?_⟩
        -- row = there[position]
        refine ⟨_, rfl, _, rfl, _, _, _, _, rfl, rfl, Evl.ex_l (e1.trans e) ha, at_row cok.2.1 cok.2.2, ?_⟩
        -- if word == RANGE and anchor in places:
        have hpd' := e _ _ hpd
        have ha' := Evl.ex_l (e1.trans e) ha
        refine ⟨fun b H'' => H'' = H' ∧ b = (rng ns word an').isSome, ?_, ?_⟩
        · refine ⟨_, rfl, rfl, _, rfl, ?_⟩
          rw [rng_isSome]
          refine ifB (fun c => ?_) (fun c => ⟨rfl, ?_⟩)
          · cases an' with
            | none =>
              refine ⟨_, rfl, _, rfl, .inr ⟨_, _, rfl, rfl, .inl hpd', _, rfl, rfl, ?_⟩⟩
              rw [Option.any_none, Bool.and_false]
            | some n =>
              refine ⟨_, rfl, _, rfl, .inl ⟨_, _, rfl, .inl ⟨_, Sum.inl n, .inl hpd', rfl, rfl⟩, _, rfl, rfl, ?_⟩⟩
              rw [valV_kvs, Option.any_some]
              have c' : V.str word = V.str "range" := of_decide_eq_true c
              injection c' with c'
              rw [decide_eq_true c', Bool.true_and]
              by_cases m : n ∈ ns
              · rw [if_pos m, decide_eq_true m]
                rfl
              · rw [if_neg m, decide_eq_false m]
                rfl
          · have c' : ¬ word = "range" := fun z => by
              have := of_decide_eq_false c
              exact this (by rw [z])
            rw [decide_eq_false c', Bool.false_and]
        · rintro bb H'' ⟨rfl, rfl⟩
          cases hrng : rng ns word an' with
          | none =>
            rw [step_cl hrng]
            have rm := row_mem cok.2.1 cok.2.2
            refine iteF ?_
            -- if row in found:
            refine ⟨fun σ' H3 => ∃ ks', σ' = [some (.ref a), some (.ref m), some (anV an'), some (.ref b), some (.ref pd), some (.ref fd), some (.str word), some (.int pos), some (.int (rowAt ns pos)), w9, w10, w11, w12] ∧ Ex H1 H3 ∧ H3 fd = some (.dK (kvsOf ks' tt)) ∧ FdOk (fun r => if r = rowAt ns pos then !f r else f r) (ms ++ ns) ks', ?_, ?_⟩
            · refine ⟨_, rfl, _, rfl, .inl ⟨_, _, rfl, .inl ⟨_, Sum.inl (rowAt ns pos), .inl d, rfl, rfl⟩, _, rfl, ?_⟩⟩
              rw [valV_kvs]
              by_cases mm : rowAt ns pos ∈ ks
              · rw [if_pos mm]
                refine iteT ?_
                refine ⟨_, rfl, _, rfl, _, _, Sum.inl (rowAt ns pos), rfl, d, rfl, by rw [valV_kvs, if_pos mm]; rfl, ?_⟩
                rw [dropK_kvs]
                refine ⟨_, rfl, Evl.Ex.mut e hfd, upd_same, (fok.drop (rowAt ns pos)).congr fun r => ?_⟩
                by_cases z : r = rowAt ns pos
                · rw [if_pos z, if_pos z, z]
                  show false = !f _
                  rw [(fok.is _).mp mm]
                  rfl
                · rw [if_neg z, if_neg z]
              · rw [if_neg mm]
                refine iteF ?_
                refine ⟨_, rfl, _, rfl, _, _, rfl, .inl ⟨_, Sum.inl (rowAt ns pos), d, rfl, big fok hlm hl _, rfl⟩, ?_⟩
                rw [putK_tt]
                refine ⟨_, rfl, Evl.Ex.mut e hfd, upd_same, (fok.put (List.mem_append_right _ rm)).congr fun r => ?_⟩
                by_cases z : r = rowAt ns pos
                · rw [if_pos z, if_pos z, z]
                  show true = !f _
                  cases q : f (rowAt ns pos) with
                  | false => rfl
                  | true => exact absurd ((fok.is _).mpr q) mm
                · rw [if_neg z, if_neg z]
            · rintro σ' H3 ⟨ks', rfl, e3, d3, f3⟩
              exact ⟨_, rfl, _, _, _, _, _, _, _, ks', rfl, e3, d3, f3⟩
          | some n =>
            obtain ⟨rfl, rfl, nm'⟩ := rng_some hrng
            rw [step_rng hrng]
            have ilt : ns.idxOf n < ns.length := List.idxOf_lt_length_of_mem nm'
            have gv : valV (kvsOf ns fun n => V.int (ns.idxOf n : Nat)) (Sum.inl n) = some (.int (ns.idxOf n : Nat)) := by rw [valV_kvs, if_pos nm']
            refine iteT ?_
            -- first, last = ..
            refine ⟨_, rfl, _, rfl, _, _, rfl, .inl ⟨_, Sum.inl n, .inl hpd', rfl, gv.symm⟩, _, rfl, _, _, rfl, ?_⟩
            refine ⟨_, rfl, _, rfl, _, _, rfl, .inl ⟨_, Sum.inl n, .inl hpd', rfl, gv.symm⟩, _, rfl, _, _, rfl, _, _, rfl, ?_⟩
            -- is_marked = anchor in found
            refine ⟨_, rfl, _, rfl, .inl ⟨_, _, rfl, .inl ⟨_, Sum.inl n, .inl d, rfl, rfl⟩, ?_⟩⟩
            have ef : (valV (kvsOf ks tt) (Sum.inl n)).isSome = f n := by
              rw [valV_kvs]
              by_cases z : n ∈ ks
              · rw [if_pos z, (fok.is n).mp z]
                rfl
              · rw [if_neg z]
                cases q : f n with
                | false => rfl
                | true => exact absurd ((fok.is n).mpr q) z
            rw [ef]
            have p0 : 0 ≤ pos := cok.2.1
            have p1 : pos < ns.length := cok.2.2
            have elo : (if pos < (ns.idxOf n : Int) then pos else (ns.idxOf n : Int)) = ((min (ns.idxOf n) pos.toNat : Nat) : Int) := by split <;> omega
            have ehi : (if pos > (ns.idxOf n : Int) then pos else (ns.idxOf n : Int)) = ((max (ns.idxOf n) pos.toNat : Nat) : Int) := by split <;> omega
            -- for other in there[first:last + 1]:
            refine ⟨_, rfl, _, rfl, _, rfl, _, rfl, _, _, rfl, rfl, _, rfl, _, _, rfl, ha', fun p1 H1' n1 e1' h1 => ?_⟩
            have ecut : cutV (ns.map V.int) (some (if pos < (ns.idxOf n : Int) then pos else (ns.idxOf n : Int))) (some ((if pos > (ns.idxOf n : Int) then pos else (ns.idxOf n : Int)) + 1)) = (span ns (ns.idxOf n) pos.toNat).map V.int := by
              rw [elo, ehi]
              refine (cut_mid (n := min (ns.idxOf n) pos.toNat) (m := max (ns.idxOf n) pos.toNat + 1) _ (by rw [List.length_map]; omega)).trans ?_
              unfold span
              rw [List.map_take, List.map_drop]
            have h1 : H1' p1 = some (.lst (cutV (ns.map V.int) (some (if pos < (ns.idxOf n : Int) then pos else (ns.idxOf n : Int))) (some ((if pos > (ns.idxOf n : Int) then pos else (ns.idxOf n : Int)) + 1)))) := h1
            rw [ecut] at h1
            have smem : ∀ r ∈ span ns (ns.idxOf n) pos.toNat, r ∈ ns := fun r hr => List.mem_of_mem_drop (List.mem_of_mem_take hr)
            generalize hsp : span ns (ns.idxOf n) pos.toNat = sp at h1 smem ⊢
            have np1 : p1 ≠ fd := fun z => by rw [z, d] at n1; cases n1
            have nP1 : H1 p1 = none := by
              cases q : H1 p1 with
              | none => rfl
              | some o =>
                rw [e _ _ q] at n1
                cases n1
            refine ⟨p1, rfl, ⟨_, sqI h1⟩, for_list (K := K) (a := p1) (xs := sp.map V.int) (fun j σ' H3 => ∃ v9 v10 v12 ks', σ' = [some (.ref a), some (.ref m), some (.int n), some (.ref b), some (.ref pd), some (.ref fd), some (.str "range"), some (.int pos), some (.int (rowAt ns pos)), v9, v10, some (.bl (f n)), v12] ∧ Ex H1 H3 ∧ H3 p1 = some (.lst (sp.map V.int)) ∧ H3 fd = some (.dK (kvsOf ks' tt)) ∧ FdOk (fun r => if r ∈ sp.take j then f n else f r) (ms ++ ns) ks') ?_ ?_ ?_ ?_⟩
            · exact ⟨_, _, _, ks, rfl, e.trans e1', h1, e1' _ _ d, fok.congr fun r => by simp⟩
            · rintro j σ' H3 _ ⟨_, _, _, _, _, _, z, _⟩
              exact sqI z
            · rintro j x σ' H3 hj ⟨v9, v10, v12, ks', rfl, e3, l3, d3, f3⟩
              obtain ⟨t, ht, rfl⟩ := mapI_get hj
              have tm := smem t (List.mem_of_getElem? ht)
              refine ⟨_, rfl, _, rfl, ?_⟩
              refine ifB (fun c => ?_) (fun c => ?_)
              · refine ⟨_, rfl, _, rfl, _, _, rfl, .inl ⟨_, Sum.inl t, d3, rfl, big f3 hlm hl _, rfl⟩, ?_⟩
                rw [putK_tt]
                refine ⟨_, _, _, _, rfl, Evl.Ex.mut e3 hfd, (by rw [upd_ne np1]; exact l3), upd_same, (f3.put (List.mem_append_right _ tm)).congr fun r => ?_⟩
                rw [take_snoc ht]
                by_cases z : r = t
                · rw [if_pos z, if_pos (by simp [z]), c]
                · rw [if_neg z]
                  by_cases z2 : r ∈ sp.take j
                  · rw [if_pos z2, if_pos (List.mem_append_left _ z2)]
                  · rw [if_neg z2, if_neg (by simp [z, z2])]
              · have fin : ∀ r, (if r = t then false else if r ∈ sp.take j then f n else f r) = if r ∈ sp.take (j + 1) then f n else f r := fun r => by
                  rw [take_snoc ht]
                  by_cases z : r = t
                  · rw [if_pos z, if_pos (by simp [z]), c]
                  · rw [if_neg z]
                    by_cases z2 : r ∈ sp.take j
                    · rw [if_pos z2, if_pos (List.mem_append_left _ z2)]
                    · rw [if_neg z2, if_neg (by simp [z, z2])]
                refine ⟨_, rfl, _, rfl, .inl ⟨_, .inl d3⟩, _, rfl, _, Sum.inl t, d3, rfl, fun v hv => ?_, fun hv => ?_⟩
                · show ∃ v9 v10 v12 ks', _
                  refine ⟨_, _, _, _, rfl, Evl.Ex.mut e3 hfd, (by rw [upd_ne np1]; exact l3), ?_, (f3.drop t).congr fin⟩
                  rw [upd_same, dropK_kvs]
                · refine ⟨_, _, _, ks', rfl, e3, l3, d3, f3.congr fun r => ?_⟩
                  rw [← fin r]
                  by_cases z : r = t
                  · rw [if_pos z]
                    rw [valV_kvs] at hv
                    have nt : t ∉ ks' := fun z2 => by
                      rw [if_pos z2] at hv
                      cases hv
                    cases q : (if r ∈ sp.take j then f n else f r) with
                    | false => rfl
                    | true => exact absurd (z ▸ (f3.is r).mpr q) nt
                  · rw [if_neg z]
            · rintro σ' H3 ⟨v9, v10, v12, ks', rfl, e3, l3, d3, f3⟩
              refine ⟨_, _, _, _, _, _, _, ks', rfl, e3, d3, f3.congr fun r => ?_⟩
              rw [List.length_map, List.take_length]
      · rintro σ H' ⟨w6, w7, w8, w9, w10, w11, w12, ks, rfl, e, d, fok⟩
        have el : xs.length = cs.length := hc.1
        rw [el, List.take_length] at fok
        have ed : (cs.take xs.length).foldl (step ns) (fun r => decide (r ∈ ms), an) = done ns ms an cs := by
          rw [el, List.take_length]
          rfl
        rw [ed]
        have fok : FdOk (done ns ms an cs).1 (ms ++ ns) ks := fok
        refine ⟨_, rfl, fd, _, ks, rfl, d, kvs_keys ks tt, fun rs hp hs p1 H3 n1 e3 h1 => ?_⟩
        refine ⟨_, rfl, (by show 2 ≤ sizeLine; decide), fun p2 H4 n2 e4 h2 => ?_⟩
        have eH : Ex H H' := e1.trans e
        have back : ∀ {x : Addr}, H' x = none → H x = none := fun {x} hx => by
          cases q : H x with
          | none => rfl
          | some o =>
            rw [eH _ _ q] at hx
            cases hx
        have n2' : H' p2 = none := by
          cases q : H' p2 with
          | none => rfl
          | some o =>
            rw [e3 _ _ q] at n2
            cases n2
        exact k p1 p2 H4 rs (back n1) (eH.trans (e3.trans e4)) (ne_of_none h1 n2) (back n2') h2 (e4 _ _ h1) (asc_of hp hs fok.nd) (fun r => by rw [hp.mem_iff, fok.is]) (fun r hr => fok.dm r (hp.mem_iff.mp hr))
end
end K76
set_option Elab.async false
set_option pp.maxSteps 1200
set_option linter.all false
set_option maxRecDepth 100000
set_option maxHeartbeats 4000000
namespace K76
open PySem L2 My
theorem step_an (there : List Int) (f g : Int → Bool) (an : Option Int) (c : Cl) : (step there (f, an) c).2 = (step there (g, an) c).2 := by
  obtain ⟨word, pos⟩ := c
  cases h : rng there word an with
  | none => rw [step_cl h, step_cl h]
  | some n => rw [step_rng h, step_rng h]
theorem fold_an (there : List Int) : ∀ (cs : List Cl) (f g : Int → Bool) (an : Option Int), (cs.foldl (step there) (f, an)).2 = (cs.foldl (step there) (g, an)).2
  | [], _, _, _ => rfl
  | c :: cs, f, g, an => by
    show (cs.foldl (step there) (step there (f, an) c)).2 = (cs.foldl (step there) (step there (g, an) c)).2
    have e := step_an there f g an c
    generalize step there (f, an) c = s1 at e ⊢
    generalize step there (g, an) c = s2 at e ⊢
    obtain ⟨a1, b1⟩ := s1
    obtain ⟨a2, b2⟩ := s2
    have e : b1 = b2 := e
    subst e
    exact fold_an there cs a1 a2 b1
theorem done_an (there ms ms' : List Int) (an : Option Int) (cs : List Cl) : (done there ms an cs).2 = (done there ms' an cs).2 := fold_an there cs _ _ an
def posns (ns rows : List Int) : List Int := ((List.range ns.length).filter fun i => decide (ns.getD i 0 ∈ rows)).map fun i => ((i : Nat) : Int)
theorem inV_int (x : Int) (rows : List Int) : inV (V.int x) (rows.map V.int) = decide (x ∈ rows) := by
  unfold inV
  rw [List.any_map, Bool.eq_iff_iff, List.any_eq_true]
  constructor
  · rintro ⟨n, hn, e⟩
    have : n = x := by
      have e : (n == x) = true := e
      simpa using e
    subst this
    exact decide_eq_true hn
  · intro h
    exact ⟨x, of_decide_eq_true h, by show (x == x) = true; simp⟩
theorem inV_non (rows : List Int) : inV V.non (rows.map V.int) = false := by
  unfold inV
  rw [List.any_map, List.any_eq_false]
  intro n hn
  show ¬ (false = true)
  decide
theorem flatI (rows : List Int) : (rows.map V.int).all flatV = true := by
  rw [List.all_map, List.all_eq_true]
  intro _ _
  rfl
def sp_marked (K : PySem.W.Frag) : Sp := fun vs H Q _ => ∃ (a m b : Addr) (ns ms : List Int) (xs : List V) (cs : List Cl) (an : Option Int), vs = [.ref a, .ref m, anV an, .ref b] ∧ SqL K H a (ns.map V.int) ∧ SqL K H m (ms.map V.int) ∧ SqL K H b xs ∧ ns.Nodup ∧ ns.length ≤ 1000 ∧ ms.Pairwise (· < ·) ∧ ms.length ≤ 1000 ∧ Cls K H xs cs ∧ ClOk ns.length cs ∧
  ∀ (p q : Addr) (H' : Hp) (rs : List Int), H p = none → Ex H H' → p ≠ q → H q = none → H' q = some (.tup [.ref p, anV (done ns ms an cs).2]) → H' p = some (.lst (rs.map V.int)) → rs.Pairwise (· < ·) → (∀ r, r ∈ rs ↔ (done ns ms an cs).1 r = true) → (∀ r ∈ rs, r ∈ ms ++ ns) → Q (.ref q) H'
theorem pw_nodup {ms : List Int} (h : ms.Pairwise (· < ·)) : ms.Nodup := h.imp fun z => by omega
theorem Ex_back {H H' : Hp} (e : Ex H H') {x : Addr} (hx : H' x = none) : H x = none := by
  cases q : H x with
  | none => rfl
  | some o =>
    rw [e _ _ q] at hx
    cases hx
section
variable {w : World} {K : PySem.W.Frag} {mg : Str → Option Value} {base : Heap}
theorem ok_marked (T : Txt K mg) : FnOk PR w K mg base (L2.CX PR w) 5 T.a_marked T.d_marked ["there", "marks", "anchor", "clicks"] (sp_marked K) := by
  refine T.f_marked.okX sc_marked (fun vs H Q E h => ?_) (fun cdv A outer s H vs Q E hr h => ?_)
  · obtain ⟨a, m, b, ns, ms, xs, cs, an, rfl, _⟩ := h
    rfl
  · obtain ⟨a, m, b, ns, ms, xs, cs, an, rfl, ha, hm, hb, nd, hl, pw, hlm, hc, ok, k⟩ := h
    refine ⟨_, (pss_cons (ps_expr (pe_call (ok_check_state T) (hr.mono (by decide)) (by rfl) T.g_check_state T.f_check_state.kp (b_check_state T) .nil passX (pa_cons (pv 0) (pa_cons (pv 1) (pa_cons (pv 3) pa_nil))))) (pss_one (ps_ret (pe_call (ok_marked_in T) (hr.mono (by decide)) (by rfl) T.g_marked_in T.f_marked_in.kp (b_marked_in T) .nil pass0 (pa_cons (pv 0) (pa_cons (pv 1) (pa_cons (pv 2) (pa_cons (pv 3) pa_nil)))))))), ?_⟩
    refine ⟨_, rfl, _, rfl, _, rfl, a, m, b, ns, ms, xs, cs, rfl, ha, hm, hb, nd, hl, pw, hlm, hc, ok, fun H1 e1 => ?_⟩
    refine ⟨_, rfl, _, rfl, _, rfl, _, rfl, a, m, b, ns, ms, xs, cs, an, rfl, Evl.ex_l e1 ha, Evl.ex_l e1 hm, Evl.ex_l e1 hb, nd, hl, pw_nodup pw, hlm, hc.ex e1, ok, fun p q H2 rs np e2 npq nq h1 h2 h3 h4 h5 => ?_⟩
    exact k p q H2 rs (Ex_back e1 np) (e1.trans e2) npq (Ex_back e1 nq) h1 h2 h3 h4 h5
end
end K76
set_option Elab.async false
set_option pp.maxSteps 1200
set_option linter.all false
set_option maxRecDepth 100000
set_option maxHeartbeats 4000000
namespace K76
open PySem L2 My
/-! ### the source -/
/-- a source of draws stands at j, of which at most B were mixed -/
def Jug (H : Hp) (j : Addr) (B : Int) : Prop := ∃ x y z : Int, H j = some (.lst [.int x, .int y, .int z]) ∧ 0 ≤ y ∧ y < 2 ^ 200 ∧ 0 ≤ z ∧ z ≤ B
theorem Jug.ex {H H' : Hp} {j : Addr} {B : Int} (e : Ex H H') : Jug H j B → Jug H' j B
  | ⟨x, y, z, h, r⟩ => ⟨x, y, z, e _ _ h, r⟩
theorem Jug.mono {H : Hp} {j : Addr} {B B' : Int} (h : B ≤ B') : Jug H j B → Jug H j B'
  | ⟨x, y, z, h1, h2, h3, h4, h5⟩ => ⟨x, y, z, h1, h2, h3, h4, by omega⟩
theorem Jug.some {H : Hp} {j : Addr} {B : Int} : Jug H j B → ∃ o, H j = some o
  | ⟨_, _, _, h, _⟩ => ⟨_, h⟩
theorem Jug.ne {H : Hp} {j p : Addr} {B : Int} (h : Jug H j B) (n : H p = none) : p ≠ j := by
  obtain ⟨o, ho⟩ := h.some
  exact (ne_of_none ho n).symm
theorem Jug.upd {H : Hp} {j p : Addr} {B : Int} {o : HO} (n : p ≠ j) : Jug H j B → Jug (upd H p o) j B
  | ⟨x, y, z, h, r⟩ => ⟨x, y, z, by rw [upd_ne n.symm]; exact h, r⟩
theorem _root_.My.Exj.back {j p : Addr} {H H' : Hp} (e : Exj j H H') (n : p ≠ j) (h : H' p = none) : H p = none := by
  cases q : H p with
  | none => rfl
  | some o =>
    rw [e p o n q] at h
    cases h
theorem mix_lt {m z : Int} (h0 : 0 ≤ m) (h1 : m < 2 ^ 200) (z0 : 0 ≤ z) (z1 : z ≤ 2 ^ 60) : (m + 32452843 * (z + 1)).natAbs < 2 ^ 210 := by omega
def sp__law_draw : Sp := fun vs H Q _ => ∃ (j : Addr) (many B : Int), vs = [.ref j, .int many] ∧ Jug H j B ∧ B ≤ 2 ^ 60 ∧ 0 < many ∧ many < 2 ^ 200 ∧
  ∀ (n : Int) (H' : Hp), 0 ≤ n → n < many → Exj j H H' → Jug H' j (B + 1) → Q (.int n) H'
def sp__law_source (K : PySem.W.Frag) : Sp := fun vs H Q _ => ∃ (a : Addr) (ns : List Int) (k : Int), vs = [.ref a, .int k] ∧ SqL K H a (ns.map V.int) ∧ 0 ≤ k ∧ k ≤ 100 ∧ ∀ (p : Addr) (H' : Hp), H p = none → Ex H H' → Jug H' p 0 → Q (.ref p) H'
section
variable {P : Program} {w : World} {K : PySem.W.Frag} {mg : Str → Option Value} {base : Heap}
theorem ok__law_draw (T : Txt K mg) : FnOk P w K mg base CX0 1 T.a__law_draw T.d__law_draw ["_law_source_here", "_law_bound"] sp__law_draw := by
  refine T.f__law_draw.ok sc__law_draw (fun vs H Q E h => ?_) (fun cdv A outer s H vs Q E hr h => ?_)
  · obtain ⟨j, many, B, rfl, _⟩ := h
    rfl
  · obtain ⟨j, many, B, rfl, ⟨x, y, z, hj, y0, y1, z0, z1⟩, hB, m0, m1, k⟩ := h
    refine ⟨_, (pss_cons (ps_if (pt_cmpR op_gt (pe_ix ix_list (pv 0) pe_int (fun _ _ => rfl)) pe_int (nomark _)) (pss_cons (ps_set (i := 2) sc__law_draw.nd rfl (by first | exact Or.inl rfl | exact Or.inr rfl) (pe_op op_mod (pe_callTy call_int1 (by rfl) T.z_int (by decide +kernel) (pa_cons (pe_ix ix_list (pv 0) pe_int (fun _ _ => rfl)) pa_nil)) (pv 1))) (pss_cons (ps_asg (pe_op op_fdivW (pe_ix ix_list (pv 0) pe_int (fun _ _ => rfl)) (pv 1)) (pg_sub (pv 0) pe_int set_list)) (pss_one (ps_ret (pv 2))))) pss_nil) (pss_cons (ps_asg (pe_op op_add (pe_ix ix_list (pv 0) pe_int (fun _ _ => rfl)) pe_int) (pg_sub (pv 0) pe_int set_list)) (pss_cons (ps_set (i := 3) sc__law_draw.nd rfl (by first | exact Or.inl rfl | exact Or.inr rfl) (pe_op op_mod (pe_callTy call_int1 (by rfl) T.z_int (by decide +kernel) (pa_cons (pe_op op_powW (pe_op op_add (pe_ix ix_list (pv 0) pe_int (fun _ _ => rfl)) (pe_op op_mulW pe_int (pe_ix ix_list (pv 0) pe_int (fun _ _ => rfl)))) pe_int) pa_nil)) (pe_op op_add (pe_op op_powW pe_int pe_int) pe_int))) (pss_cons (ps_set (i := 3) sc__law_draw.nd rfl (by first | exact Or.inl rfl | exact Or.inr rfl) (pe_op op_mod (pe_callTy call_int1 (by rfl) T.z_int (by decide +kernel) (pa_cons (pe_op op_powW (pe_op op_add (pv 3) (pe_op op_mulW pe_int (pe_ix ix_list (pv 0) pe_int (fun _ _ => rfl)))) pe_int) pa_nil)) (pe_op op_add (pe_op op_powW pe_int pe_int) pe_int))) (pss_one (ps_ret (pe_op op_mod (pe_op op_fdivW (pe_callTy call_int1 (by rfl) T.z_int (by decide +kernel) (pa_cons (pv 3) pa_nil)) pe_int) (pv 1)))))))), ?_⟩
    have sq : ∀ {H' : Hp} {l : List V}, H' j = some (.lst l) → SqL K H' j l := fun h => sqI h
    have m2 : many.natAbs < 2 ^ 200 := by omega
    refine ⟨_, rfl, _, _, _, _, rfl, rfl, sq hj, at0, _, _, rfl, rfl, _, rfl, ?_⟩
    refine ite2 (fun c => ?_) (fun c => ?_)
    · refine ⟨_, rfl, _, _, _, _, rfl, rfl, sq hj, at0, .inl ⟨_, rfl, ?_⟩⟩
      refine ⟨_, rfl, _, _, rfl, rfl, m0, ?_⟩
      refine ⟨_, rfl, _, _, _, _, rfl, rfl, sq hj, at0, _, rfl, _, _, rfl, rfl, wide_div m0 m2 (by decide) (by decide), _, rfl, _, _, _, _, rfl, rfl, hj, (show _ = some 0 from rfl), ?_⟩
      refine ⟨_, rfl, ?_⟩
      exact k _ _ (Int.emod_nonneg _ (by omega)) (Int.emod_lt_of_pos _ m0) (Exj.refl _ _).upd ⟨_, y, z, upd_same, y0, y1, z0, by omega⟩
    · refine ⟨_, rfl, _, _, _, _, rfl, rfl, sq hj, at2, _, _, rfl, rfl, _, rfl, _, _, _, _, rfl, rfl, hj, (show _ = some 2 from rfl), ?_⟩
      have hj1 : L2.upd H j (.lst [.int x, .int y, .int (z + 1)]) j = some (.lst [.int x, .int y, .int (z + 1)]) := upd_same
      have ez : (z + 1).natAbs < 2 ^ 70 := by omega
      have b1 : (y + 15485863 * (z + 1)).natAbs < 2 ^ 210 := by omega
      refine ⟨_, rfl, _, _, _, _, rfl, rfl, sq hj1, at1, _, rfl, _, _, _, _, rfl, rfl, sq hj1, at2, _, _, rfl, rfl, wide_mul (a := 30) (b := 70) (by decide) ez (by decide) (by decide) (by decide), _, _, rfl, rfl, _, _, rfl, rfl, powW_of (j := 3) b1 (by decide) (by decide), .inl ⟨_, rfl, ?_⟩⟩
      refine ⟨_, _, rfl, rfl, (show CPowW 10 35 by constructor <;> decide +kernel), _, _, rfl, rfl, _, _, rfl, rfl, (show (0 : Int) < 10 ^ (35 : Int).toNat + 69 by decide +kernel), ?_⟩
      have q0 := Int.emod_nonneg ((y + 15485863 * (z + 1)) ^ (3 : Int).toNat) (show ((10 : Int) ^ (35 : Int).toNat + 69) ≠ 0 by decide +kernel)
      have q1 := Int.emod_lt_of_pos ((y + 15485863 * (z + 1)) ^ (3 : Int).toNat) (show 0 < ((10 : Int) ^ (35 : Int).toNat + 69) by decide +kernel)
      have q2 : ((10 : Int) ^ (35 : Int).toNat + 69) < 2 ^ 200 := by decide +kernel
      have b2 := mix_lt (z := z) q0 (Int.lt_trans q1 q2) z0 (Int.le_trans z1 hB)
      refine ⟨_, rfl, _, rfl, _, _, _, _, rfl, rfl, sq hj1, at2, _, _, rfl, rfl, wide_mul (a := 30) (b := 70) (by decide) ez (by decide) (by decide) (by decide), _, _, rfl, rfl, _, _, rfl, rfl, powW_of (j := 3) b2 (by decide) (by decide), .inl ⟨_, rfl, ?_⟩⟩
      refine ⟨_, _, rfl, rfl, (show CPowW 10 32 by constructor <;> decide +kernel), _, _, rfl, rfl, _, _, rfl, rfl, (show (0 : Int) < 10 ^ (32 : Int).toNat + 49 by decide +kernel), ?_⟩
      refine ⟨_, rfl, .inl ⟨_, rfl, _, _, rfl, rfl, wide_div (b := 40) (by decide) (by decide) (by decide) (by decide), _, rfl, _, _, rfl, rfl, m0, ?_⟩⟩
      exact k _ _ (Int.emod_nonneg _ (by omega)) (Int.emod_lt_of_pos _ m0) (Exj.refl _ _).upd ⟨x, y, z + 1, upd_same, y0, y1, by omega, by omega⟩
theorem ok__law_source (T : Txt K mg) : FnOk P w K mg base CX0 1 T.a__law_source T.d__law_source ["_law_script", "_law_index"] (sp__law_source K) := by
  refine T.f__law_source.ok sc__law_source (fun vs H Q E h => ?_) (fun cdv A outer s H vs Q E hr h => ?_)
  · obtain ⟨a, ns, k, rfl, _⟩ := h
    rfl
  · obtain ⟨a, ns, n, rfl, hs, n0, n1, k⟩ := h
    refine ⟨_, (pss_cons (ps_set (i := 2) sc__law_source.nd rfl (by first | exact Or.inl rfl | exact Or.inr rfl) pe_int) (pss_cons (ps_cut (ps_if (pt_cmpR op_lt (pv 1) (pe_callB call_len_seq (by rfl) T.z_len PySem.boot_len (pa_cons (pv 0) pa_nil)) (nomark _)) (pss_one (ps_set (i := 2) sc__law_source.nd rfl (by first | exact Or.inl rfl | exact Or.inr rfl) (pe_ix ix_list (pv 0) (pv 1) (fun _ _ => rfl)))) pss_nil)) (pss_one (ps_ret (pe_lstG (pa_cons (pe_callB (call_max2 rfl) (by rfl) T.z_max (by decide +kernel) (pa_cons pe_int (pa_cons (pe_op op_sub (pv 2) (pe_op op_powW pe_int pe_int)) pa_nil))) (pa_cons (pe_op op_add (pe_op op_mod (pe_callTy call_int1 (by rfl) T.z_int (by decide +kernel) (pa_cons (pv 2) pa_nil)) (pe_op op_add (pe_op op_powW pe_int pe_int) pe_int)) (pe_op op_mulW pe_int (pv 1))) (pa_cons pe_int pa_nil)))))))), ?_⟩
    refine ⟨fun σ H' => H' = H ∧ ∃ c : Int, σ = [Option.some (.ref a), Option.some (.int n), Option.some (.int c)], ?_, ?_⟩
    · refine ⟨_, rfl, _, rfl, _, _, rfl, .inl hs, _, _, rfl, rfl, _, rfl, ?_⟩
      refine ifB (fun c => ?_) (fun c => ⟨rfl, _, rfl⟩)
      have c' : n < ((ns.map V.int).length : Int) := of_decide_eq_true c
      rw [List.length_map] at c'
      have hx : ns[n.toNat]? = Option.some (ns[n.toNat]'(by omega)) := List.getElem?_eq_getElem (by omega)
      exact ⟨_, rfl, _, rfl, _, _, _, _, rfl, rfl, hs, at_of (j := n.toNat) (by omega) (by rw [List.getElem?_map, hx]; rfl), rfl, _, rfl⟩
    · rintro σ H' ⟨rfl, c, rfl⟩
      have q0 := Int.emod_nonneg c (show ((10 : Int) ^ (37 : Int).toNat + 43) ≠ 0 by decide +kernel)
      have q1 := Int.emod_lt_of_pos c (show 0 < ((10 : Int) ^ (37 : Int).toNat + 43) by decide +kernel)
      have q2 : ((10 : Int) ^ (37 : Int).toNat + 43) < 2 ^ 140 := by decide +kernel
      refine ⟨_, rfl, _, _, rfl, rfl, (show CPowW 10 18 by constructor <;> decide +kernel), _, _, rfl, rfl, _, _, rfl, ?_⟩
      refine ⟨_, rfl, .inl ⟨_, rfl, _, _, rfl, rfl, (show CPowW 10 37 by constructor <;> decide +kernel), _, _, rfl, rfl, _, _, rfl, rfl, (show (0 : Int) < 10 ^ (37 : Int).toNat + 43 by decide +kernel), _, rfl, _, _, rfl, rfl, wide_mul (a := 30) (b := 10) (by decide) (by omega) (by decide) (by decide) (by decide), _, _, rfl, rfl, (by show 3 ≤ sizeLine; decide), fun p1 H1 n1 e1 h1 => ?_⟩⟩
      refine k p1 H1 n1 e1 ⟨_, _, _, h1, ?_, ?_, Int.le_refl _, Int.le_refl _⟩
      · show 0 ≤ c % ((10 : Int) ^ (37 : Int).toNat + 43) + 1299709 * n
        omega
      · show c % ((10 : Int) ^ (37 : Int).toNat + 43) + 1299709 * n < 2 ^ 200
        have := Int.lt_trans q1 q2
        generalize c % ((10 : Int) ^ (37 : Int).toNat + 43) = d at q0 this ⊢
        omega
end
end K76
set_option Elab.async false
set_option pp.maxSteps 1200
set_option linter.all false
set_option maxRecDepth 100000
set_option maxHeartbeats 4000000
namespace K76
open PySem L2 My
/-- clicks that stand in the heap -/
def ClsH (H : Hp) (vs : List V) (cs : List Cl) : Prop := vs.length = cs.length ∧ ∀ (i : Nat) v c, vs[i]? = some v → cs[i]? = some c → ∃ q, v = .ref q ∧ H q = some (.tup [.str c.1, .int c.2])
theorem ClsH.cls {K : PySem.W.Frag} {H : Hp} {vs : List V} {cs : List Cl} (h : ClsH H vs cs) : Cls K H vs cs := ⟨h.1, fun i v c h1 h2 => let ⟨q, e1, e2⟩ := h.2 i v c h1 h2; ⟨q, e1, sqT e2⟩⟩
theorem ClsH.ex {H H' : Hp} {vs : List V} {cs : List Cl} (e : Ex H H') (h : ClsH H vs cs) : ClsH H' vs cs := ⟨h.1, fun i v c h1 h2 => let ⟨q, e1, e2⟩ := h.2 i v c h1 h2; ⟨q, e1, e _ _ e2⟩⟩
theorem ClsH.exj {H H' : Hp} {j : Addr} {B : Int} {vs : List V} {cs : List Cl} (e : Exj j H H') (hj : Jug H j B) (h : ClsH H vs cs) : ClsH H' vs cs := ⟨h.1, fun i v c h1 h2 => by
  obtain ⟨q, e1, e2⟩ := h.2 i v c h1 h2
  obtain ⟨x, y, z, hj, _⟩ := hj
  exact ⟨q, e1, e _ _ (fun z => by rw [z, hj] at e2; cases e2) e2⟩⟩
theorem ClsH.snoc {H : Hp} {vs : List V} {cs : List Cl} (h : ClsH H vs cs) {q : Addr} {c : Cl} (hq : H q = some (.tup [.str c.1, .int c.2])) : ClsH H (vs ++ [.ref q]) (cs ++ [c]) := by
  refine ⟨by simp [h.1], fun i v d h1 h2 => ?_⟩
  by_cases z : i < vs.length
  · rw [List.getElem?_append_left z] at h1
    rw [List.getElem?_append_left (by rw [← h.1]; exact z)] at h2
    exact h.2 i v d h1 h2
  · rw [List.getElem?_append_right (by omega)] at h1
    rw [List.getElem?_append_right (by rw [← h.1]; omega), ← h.1] at h2
    cases q : i - vs.length with
    | zero =>
      rw [q] at h1 h2
      cases h1
      cases h2
      exact ⟨_, rfl, hq⟩
    | succ n =>
      rw [q] at h1
      cases h1
theorem ClsH.take {H : Hp} {vs : List V} {cs : List Cl} (h : ClsH H vs cs) (n : Nat) : ClsH H (vs.take n) (cs.take n) := by
  refine ⟨by simp [h.1], fun i v d h1 h2 => ?_⟩
  rw [List.getElem?_take] at h1 h2
  split at h1
  · rename_i z
    rw [if_pos z] at h2
    exact h.2 i v d h1 h2
  · cases h1
theorem ClsH.drop {H : Hp} {vs : List V} {cs : List Cl} (h : ClsH H vs cs) (n : Nat) : ClsH H (vs.drop n) (cs.drop n) := by
  refine ⟨by simp [h.1], fun i v d h1 h2 => ?_⟩
  rw [List.getElem?_drop] at h1 h2
  exact h.2 _ v d h1 h2
def sp__law_some (K : PySem.W.Frag) : Sp := fun vs H Q _ => ∃ (j t : Addr) (size B : Int) (ns : List Int), vs = [.ref j, .ref t, .int size] ∧ Jug H j B ∧ B ≤ 2 ^ 50 ∧ SqL K H t (ns.map V.int) ∧ ns.length ≤ 100 ∧ 0 ≤ size ∧ size ≤ 1000 ∧
  ∀ (p : Addr) (H' : Hp) (ts ls : List Int), H p = none → Exj j H H' → p ≠ j → Jug H' j (B + 100) → H' p = some (.lst (ts.map V.int)) → (ts ++ ls).Perm ns → (ts.length : Int) = min size ns.length → Q (.ref p) H'
def sp__law_clicks : Sp := fun vs H Q _ => ∃ (j : Addr) (size many B : Int), vs = [.ref j, .int size, .int many] ∧ Jug H j B ∧ B ≤ 2 ^ 50 ∧ 0 ≤ size ∧ size ≤ 1000 ∧ 0 ≤ many ∧ many ≤ 100 ∧
  ∀ (p : Addr) (H' : Hp) (xs : List V) (cs : List Cl), H p = none → Exj j H H' → p ≠ j → Jug H' j (B + 500) → H' p = some (.lst xs) → ClsH H' xs cs → ClOk size.toNat cs → cs.length ≤ 100 → Q (.ref p) H'
section
variable {P : Program} {w : World} {K : PySem.W.Frag} {mg : Str → Option Value} {base : Heap}
theorem erase_perm {α : Type} : ∀ {ls : List α} {k : Nat} {y : α}, ls[k]? = some y → (y :: ls.eraseIdx k).Perm ls
  | a :: ls, 0, y, h => by
    cases h
    exact List.Perm.refl _
  | a :: ls, k + 1, y, h => by
    have ih := erase_perm (ls := ls) (k := k) (y := y) h
    show (y :: a :: ls.eraseIdx k).Perm (a :: ls)
    exact (List.Perm.swap a y _).trans (ih.cons a)
theorem map_erase {α β : Type} (f : α → β) : ∀ (l : List α) (k : Nat), (l.map f).eraseIdx k = (l.eraseIdx k).map f
  | [], _ => rfl
  | _ :: _, 0 => rfl
  | a :: l, k + 1 => by
    show f a :: (l.map f).eraseIdx k = f a :: (l.eraseIdx k).map f
    rw [map_erase f l k]
theorem ok__law_some (T : Txt K mg) : FnOk P w K mg base CX0 2 T.a__law_some T.d__law_some ["_law_source_here", "_law_things", "_law_size"] (sp__law_some K) := by
  refine T.f__law_some.ok sc__law_some (fun vs H Q E h => ?_) (fun cdv A outer s H vs Q E hr h => ?_)
  · obtain ⟨j, t, size, B, ns, rfl, _⟩ := h
    rfl
  · obtain ⟨j, t, size, B, ns, rfl, hj, hB, ht, hl, s0, s1, k⟩ := h
    refine ⟨_, (pss_cons (ps_set (i := 3) sc__law_some.nd rfl (by first | exact Or.inl rfl | exact Or.inr rfl) (pe_callTy call_listG (by rfl) T.z_list (by decide +kernel) (pa_cons (pv 1) pa_nil))) (pss_one (ps_ret (pe_lc (own := [("_law_step", 4)]) (g := gName 4) (by rfl) sc__law_some.nd (pi_range1 (by rfl) T.z_range (pa_cons (pe_callB (call_min2 rfl) (by rfl) T.z_min (by decide +kernel) (pa_cons (pv 2) (pa_cons (pe_callB call_len_seq (by rfl) T.z_len PySem.boot_len (pa_cons (pv 3) pa_nil)) pa_nil))) pa_nil)) (blkOk_by (own := [("_law_step", 4)]) (N := ["_law_source_here", "_law_things", "_law_size", "_law_left", "_law_step"]) (sc := (defScope s__law_some)) (by decide +kernel)) (fun _ _ _ _ _ => (pg_name (i := 4) sc__law_some.nd rfl (by first | exact Or.inl rfl | exact Or.inr rfl))) (fun _ _ _ _ _ => pts_nil) (fun _ _ _ _ _ => (peBMK (K := K) (by rfl) (pe_bm PySem.F.plainAttrs_list PySem.F.slot_list_pop PySem.F.type_list_pop mt_popAt (pv 3) (pa_cons (pe_call (ok__law_draw T) (hr.mono (by decide)) (by rfl) T.g__law_draw T.f__law_draw.kp (b__law_draw T) .nil pass0 (pa_cons (pv 0) (pa_cons (pe_callB (crK (r := rLenSq) (K := K) (by rfl) call_len_seq) (by rfl) T.z_len PySem.boot_len (pa_cons (pv 3) pa_nil)) pa_nil))) pa_nil)))))))), ?_⟩
    refine ⟨_, rfl, _, _, rfl, .inl ht, fun L H1 n1 e1 h1 => ?_⟩
    have nL : L ≠ j := hj.ne n1
    refine ⟨_, rfl, _, rfl, _, _, rfl, .inl (sqI h1), _, _, rfl, ?_⟩
    have em : (if ((ns.map V.int).length : Int) < size then ((ns.map V.int).length : Int) else size) = ((min size.toNat ns.length : Nat) : Int) := by
      rw [List.length_map]
      split <;> omega
    rw [em]
    refine ⟨_, rfl, (by omega), (by omega), fun D hD => ?_⟩
    have nD : D ≠ j := (hj.ex e1).ne hD
    have nDL : D ≠ L := (ne_of_none h1 hD).symm
    refine lc_range (lo := 0) (n := (((min size.toNat ns.length : Nat) : Int)).toNat) (fun i H2 => ∃ ts ls : List Int, Exj j H H2 ∧ Jug H2 j (B + i) ∧ H2 L = some (.lst (ls.map V.int)) ∧ H2 D = some (.lst (ts.map V.int)) ∧ ts.length = i ∧ (ts ++ ls).Perm ns) ?_ ?_ ?_
    · exact ⟨[], ns, (Exj.of e1).new hD, ((hj.ex e1).upd nD).mono (by omega), by rw [upd_ne nDL.symm]; exact h1, upd_same, rfl, List.Perm.refl _⟩
    · rintro i H2 hi ⟨ts, ls, e2, j2, l2, d2, hti, pm⟩
      have hlen : ts.length + ls.length = ns.length := by rw [← List.length_append]; exact pm.length_eq
      have hi' : i < ns.length := by omega
      refine ⟨rfl, ?_⟩
      show _
      refine ⟨_, rfl, .inl ⟨rfl, _, sqI l2⟩, _, rfl, _, rfl, _, _, rfl, .inl (sqI l2), j, _, _, rfl, j2, by omega, ?_, ?_, fun n H3 k0 k1 e3 j3 => ?_⟩
      · rw [List.length_map]
        omega
      · rw [List.length_map]
        omega
      · rw [List.length_map] at k1
        have l3 := e3 _ _ nL l2
        have hy : ls[n.toNat]? = some (ls[n.toNat]'(by omega)) := List.getElem?_eq_getElem (by omega)
        refine ⟨_, _, _, n.toNat, _, rfl, rfl, l3, by omega, by omega, ?_, by rw [List.getElem?_map, hy]; rfl, ?_⟩
        · rw [List.length_map]
          exact seqIndex_of k0 k1
        · refine ⟨ts.map V.int, by rw [upd_ne nDL]; exact e3 _ _ nD d2, ?_, ?_⟩
          · rw [List.length_map, hti]
            exact Nat.lt_of_lt_of_le (show i < 100 by omega) (by decide)
          · refine ⟨ts ++ [ls[n.toNat]'(by omega)], ls.eraseIdx n.toNat, ?_, ?_, ?_, ?_, by simp [hti], ?_⟩
            · intro b o nb hb
              have hb1 := e1 b o hb
              rw [upd_ne (ne_of_none hb1 hD), upd_ne (ne_of_none hb n1)]
              exact e3 _ _ nb (e2 _ _ nb hb)
            · exact ((j3.upd nL).upd nD).mono (by omega)
            · rw [upd_ne nDL.symm, upd_same, map_erase]
            · rw [upd_same, List.map_append]
              rfl
            · refine List.Perm.trans ?_ pm
              rw [List.append_assoc]
              exact (erase_perm hy).append_left ts
    · rintro H2 ⟨ts, ls, e2, j2, l2, d2, hti, pm⟩
      refine k D H2 ts ls (Ex_back e1 hD) e2 nD (j2.mono (by omega)) d2 pm ?_
      rw [hti]
      omega
theorem ok__law_clicks (T : Txt K mg) : FnOk P w K mg base CX0 2 T.a__law_clicks T.d__law_clicks ["_law_source_here", "_law_size", "_law_many"] sp__law_clicks := by
  refine T.f__law_clicks.ok sc__law_clicks (fun vs H Q E h => ?_) (fun cdv A outer s H vs Q E hr h => ?_)
  · obtain ⟨j, size, many, B, rfl, _⟩ := h
    rfl
  · obtain ⟨j, size, many, B, rfl, hj, hB, s0, s1, m0, m1, k⟩ := h
    refine ⟨_, (pss_cons (ps_set (i := 3) sc__law_clicks.nd rfl (by first | exact Or.inl rfl | exact Or.inr rfl) (pe_lstG pa_nil)) (pss_cons (ps_for PassesOwn.never rfl (pi_range1 (by rfl) T.z_range (pa_cons (pe_op op_mulW (pe_call (ok__law_draw T) (hr.mono (by decide)) (by rfl) T.g__law_draw T.f__law_draw.kp (b__law_draw T) .nil pass0 (pa_cons (pv 0) (pa_cons (pe_op op_add (pv 2) pe_int) pa_nil))) (pe_callTy call_int1 (by rfl) T.z_int (by decide +kernel) (pa_cons (pe_cmpR op_gt (pv 1) pe_int (nomark _)) pa_nil))) pa_nil)) (pg_name (i := 4) sc__law_clicks.nd rfl (by first | exact Or.inl rfl | exact Or.inr rfl)) (pss_one (ps_expr (pe_bm PySem.F.plainAttrs_list PySem.F.slot_list_append PySem.F.type_list_append mt_append (pv 3) (pa_cons (pe_tupG (pa_cons (pe_ix ix_list (pe_lstG (pa_cons pe_str (pa_cons pe_str pa_nil))) (pe_call (ok__law_draw T) (hr.mono (by decide)) (by rfl) T.g__law_draw T.f__law_draw.kp (b__law_draw T) .nil pass0 (pa_cons (pv 0) (pa_cons pe_int pa_nil))) (fun _ _ => rfl)) (pa_cons (pe_call (ok__law_draw T) (hr.mono (by decide)) (by rfl) T.g__law_draw T.f__law_draw.kp (b__law_draw T) .nil pass0 (pa_cons (pv 0) (pa_cons (pv 1) pa_nil))) pa_nil))) pa_nil))))) (pss_one (ps_ret (pv 3))))), ?_⟩
    refine ⟨(by show 0 ≤ sizeLine; decide), fun p1 H1 n1 e1 h1 => ?_⟩
    have nP : p1 ≠ j := hj.ne n1
    refine ⟨_, rfl, _, rfl, _, _, rfl, rfl, j, _, _, rfl, hj.ex e1, by omega, by omega, by omega, fun n H2 n0 n2 e2 j2 => ?_⟩
    refine ⟨_, rfl, _, _, rfl, rfl, .inr ⟨_, rfl, ?_⟩⟩
    have eb : ∃ u : Int, (if decide (size > 0) = true then (1 : Int) else 0) = u ∧ 0 ≤ u ∧ u ≤ 1 ∧ (0 < u → 0 < size) := by
      by_cases z : size > 0
      · exact ⟨1, by simp [z], by omega, by omega, fun _ => z⟩
      · exact ⟨0, by simp [z], by omega, by omega, fun z => absurd z (by omega)⟩
    obtain ⟨u, eu, u0, u1, us⟩ := eb
    rw [eu]
    have en : ∃ m : Nat, n * u = (m : Int) ∧ m ≤ 100 ∧ (0 < m → 0 < size) := by
      rcases (show u = 0 ∨ u = 1 by omega) with z | z
      · exact ⟨0, by rw [z]; simp, by omega, fun h => absurd h (by omega)⟩
      · exact ⟨n.toNat, by rw [z]; omega, by omega, fun _ => us (by omega)⟩
    obtain ⟨m, em, ml, ms⟩ := en
    refine ⟨_, _, rfl, rfl, wide_mul (a := 30) (b := 30) (by omega) (by omega) (by decide) (by decide) (by decide), ?_⟩
    refine ⟨n * u, rfl, (by omega), (by omega), for_range (lo := 0) (n := (n * u).toNat) (fun i σ H3 => ∃ v4 xs cs, σ = [some (.ref j), some (.int size), some (.int many), some (.ref p1), v4] ∧ Exj j H H3 ∧ Jug H3 j (B + 1 + 2 * i) ∧ H3 p1 = some (.lst xs) ∧ ClsH H3 xs cs ∧ ClOk size.toNat cs ∧ cs.length = i) ?_ ?_ ?_⟩
    · exact ⟨_, [], [], rfl, (Exj.of e1).trans e2, j2.mono (by omega), e2 _ _ nP h1, ⟨rfl, fun i v c h => (by cases h)⟩, (fun c hc => (by cases hc)), rfl⟩
    · rintro i σ H3 hi ⟨v4, xs, cs, rfl, e3, j3, h3, c3, ok3, l3⟩
      refine ⟨_, rfl, .inl ⟨rfl, _, sqI h3⟩, (by show 2 ≤ sizeLine; decide), fun p4 H4 n4 e4 h4 => ?_⟩
      have nP4 : p4 ≠ j := j3.ne n4
      refine ⟨_, rfl, j, _, _, rfl, j3.ex e4, by omega, by decide, by decide, fun d H5 d0 d1 e5 j5 => ?_⟩
      have h5 := e5 _ _ nP4 h4
      have ea : ∃ wd : Str, atI [V.str "click", V.str "range"] d = some (.str wd) ∧ (wd = "click" ∨ wd = "range") := by
        rcases (show d = 0 ∨ d = 1 by omega) with z | z
        · exact ⟨_, by rw [z]; exact at0, .inl rfl⟩
        · exact ⟨_, by rw [z]; exact at1, .inr rfl⟩
      obtain ⟨wd, ea, wok⟩ := ea
      refine ⟨_, _, _, _, rfl, rfl, sqI h5, ea, ?_⟩
      refine ⟨_, rfl, _, rfl, j, _, _, rfl, j5, by omega, ms (by omega), by omega, fun pos H6 p0 p2 e6 j6 => ?_⟩
      refine ⟨(by show 2 ≤ sizeLine; decide), fun p7 H7 n7 e7 h7 => ?_⟩
      have x3 : H7 p1 = some (.lst xs) := e7 _ _ (e6 _ _ nP (e5 _ _ nP (e4 _ _ h3)))
      have c7 : ClsH H7 xs cs := (((c3.ex e4).exj e5 (j3.ex e4)).exj e6 j5).ex e7
      refine ⟨_, _, _, rfl, rfl, x3, ?_, ?_⟩
      · rw [c3.1, l3]
        exact Nat.lt_of_lt_of_le (show i < 200 by omega) (by decide)
      · have n17 : p7 ≠ p1 := fun z => by
          rw [z] at n7
          rw [e6 _ _ nP (e5 _ _ nP (e4 _ _ h3))] at n7
          cases n7
        have tup : ∀ {q : Addr} {ys : List V}, H7 q = some (.tup ys) → L2.upd H7 p1 (.lst (xs ++ [.ref p7])) q = some (.tup ys) := fun {q ys} hq => by
          rw [upd_ne (fun z => by rw [z, x3] at hq; cases hq)]
          exact hq
        have c8 : ClsH (L2.upd H7 p1 (.lst (xs ++ [.ref p7]))) xs cs := ⟨c7.1, fun i v c h1 h2 => let ⟨q, a1, a2⟩ := c7.2 i v c h1 h2; ⟨q, a1, tup a2⟩⟩
        refine ⟨_, xs ++ [.ref p7], cs ++ [(wd, pos)], rfl, ?_, ?_, upd_same, c8.snoc (tup h7), ?_, by simp [l3]⟩
        · intro b o nb hb
          rw [upd_ne (ne_of_none hb n1)]
          exact e7 _ _ (e6 _ _ nb (e5 _ _ nb (e4 _ _ (e3 _ _ nb hb))))
        · exact ((j6.ex e7).upd nP).mono (by omega)
        · intro c hc
          rcases List.mem_append.mp hc with z | z
          · exact ok3 c z
          · have : c = (wd, pos) := by simpa using z
            subst this
            exact ⟨wok, p0, by show pos < _; omega⟩
    · rintro σ H3 ⟨v4, xs, cs, rfl, e3, j3, h3, c3, ok3, l3⟩
      exact ⟨_, rfl, k p1 H3 xs cs n1 e3 nP (j3.mono (by omega)) h3 c3 ok3 (by omega)⟩
end
end K76
set_option Elab.async false
set_option pp.maxSteps 1200
set_option linter.all false
set_option maxRecDepth 100000
set_option maxHeartbeats 4000000
namespace K76
open PySem L2 My
/-! borders, blocks, costs, covers of marks -/
abbrev Bk := Int × Int
def flagL (ns ms : List Int) : List Bool := [false] ++ ns.map (fun r => decide (r ∈ ms)) ++ [false]
def bordersL (ns ms : List Int) : List Int := ((List.range (ns.length + 1)).map fun i => (0 : Int) + ((i : Nat) : Int)).filter fun p => !decide ((flagL ns ms).getD p.toNat false = (flagL ns ms).getD (p.toNat + 1) false)
def addB (bs : List Bk) (b : Int) : List Bk := match bs.getLast? with
  | none => bs ++ [(b, b)]
  | some k => if k.2 = b - 1 then bs.dropLast ++ [(k.1, b)] else bs ++ [(b, b)]
def blocksL (ps : List Int) : List Bk := ps.foldl addB []
def costB (k : Bk) : Int := (k.2 - k.1 + 2) / 2
def costL (ns ms : List Int) : Int := ((blocksL (bordersL ns ms)).map costB).sum
def numB (k : Bk) : Int := if (k.2 - k.1 + 1) % 2 = 1 then (k.2 - k.1 + 1) / 2 + 1 else 1
def countL (ns ms : List Int) : Int := ((blocksL (bordersL ns ms)).map numB).foldl (· * ·) 1
theorem addB_snoc (bs : List Bk) (k : Bk) (b : Int) : addB (bs ++ [k]) b = if k.2 = b - 1 then bs ++ [(k.1, b)] else bs ++ [k] ++ [(b, b)] := by
  unfold addB
  rw [List.getLast?_concat]
  simp only [List.dropLast_concat]
theorem addB_len (bs : List Bk) (b : Int) : (addB bs b).length ≤ bs.length + 1 := by
  unfold addB
  split
  · simp
  · split
    · have : bs.dropLast.length ≤ bs.length := by rw [List.length_dropLast]; omega
      rw [List.length_append]
      show _ + 1 ≤ _
      omega
    · simp
theorem foldB_len : ∀ (ps : List Int) (bs : List Bk), (ps.foldl addB bs).length ≤ bs.length + ps.length
  | [], bs => Nat.le_refl _
  | p :: ps, bs => by
    have := foldB_len ps (addB bs p)
    have := addB_len bs p
    rw [List.foldl_cons, List.length_cons]
    omega
theorem blocks_len (ps : List Int) : (blocksL ps).length ≤ ps.length := by
  have := foldB_len ps []
  simpa [blocksL] using this
theorem borders_len (ns ms : List Int) : (bordersL ns ms).length ≤ ns.length + 1 := by
  unfold bordersL
  refine Nat.le_trans (List.length_filter_le _ _) ?_
  simp
theorem borders_in_ {ns ms : List Int} {p : Int} (h : p ∈ bordersL ns ms) : 0 ≤ p ∧ p ≤ ns.length := by
  obtain ⟨i, hi, rfl⟩ := List.mem_map.mp (List.mem_filter.mp h).1
  have := List.mem_range.mp hi
  omega
/-- the places of all blocks lie between -/
theorem fold_in {P : Int → Prop} : ∀ (ps : List Int) (bs : List Bk), (∀ p ∈ ps, P p) → (∀ k ∈ bs, P k.1 ∧ P k.2) → ∀ k ∈ ps.foldl addB bs, P k.1 ∧ P k.2
  | [], bs, _, hb => hb
  | p :: ps, bs, hp, hb => by
    refine fold_in ps (addB bs p) (fun q hq => hp q (List.mem_cons_of_mem _ hq)) fun k hk => ?_
    have pp := hp p List.mem_cons_self
    unfold addB at hk
    split at hk
    · rcases List.mem_append.mp hk with z | z
      · exact hb k z
      · rw [List.mem_singleton.mp z]; exact ⟨pp, pp⟩
    · rename_i l hl
      have ll := List.mem_of_getLast? hl
      split at hk
      · rcases List.mem_append.mp hk with z | z
        · exact hb k (List.dropLast_subset _ z)
        · rw [List.mem_singleton.mp z]; exact ⟨(hb l ll).1, pp⟩
      · rcases List.mem_append.mp hk with z | z
        · exact hb k z
        · rw [List.mem_singleton.mp z]; exact ⟨pp, pp⟩
theorem blocks_in {ns ms : List Int} {k : Bk} (h : k ∈ blocksL (bordersL ns ms)) : (0 ≤ k.1 ∧ k.1 ≤ ns.length) ∧ (0 ≤ k.2 ∧ k.2 ≤ ns.length) :=
  fold_in (P := fun p => 0 ≤ p ∧ p ≤ ns.length) _ [] (fun p hp => borders_in_ hp) (fun k hk => by cases hk) k h
end K76
set_option Elab.async false
set_option pp.maxSteps 1200
set_option linter.all false
set_option maxRecDepth 100000
set_option maxHeartbeats 4000000
namespace K76
open PySem L2 My
theorem decBl (a b : Bool) : decide (V.bl a = V.bl b) = decide (a = b) := by
  rw [decide_eq_decide]
  exact ⟨fun z => by injection z, fun z => by rw [z]⟩
theorem decInt (a b : Int) : decide (V.int a = V.int b) = decide (a = b) := by
  rw [decide_eq_decide]
  exact ⟨fun z => by injection z, fun z => by rw [z]⟩
theorem snoc_of {α : Type} {ks : List α} (h : ks ≠ []) : ∃ l k, ks = l ++ [k] := ⟨_, _, (List.dropLast_concat_getLast h).symm⟩
/-- a pair of ints in the heap -/
def BkR (K : PySem.W.Frag) (H : Hp) (v : V) (k : Bk) : Prop := ∃ q, v = .ref q ∧ SqT K H q [.int k.1, .int k.2]
theorem BkR.ex {K : PySem.W.Frag} {H H' : Hp} {v : V} {k : Bk} (h : BkR K H v k) (e : Ex H H') : BkR K H' v k := let ⟨q, a, b⟩ := h; ⟨q, a, Evl.ex_t e b⟩
abbrev eB : Bk → PyData := eP PyData.int PyData.int
theorem goodBk : Good eB 1 := goodP goodI goodI
theorem BkR.dp {K : PySem.W.Frag} {H : Hp} {v : V} {k : Bk} (h : BkR K H v k) : Dp K H v (eB k) := by
  obtain ⟨q, rfl, b⟩ := h
  exact .tup b (.cons (.int _) (.cons (.int _) .nil))
theorem sqT_exj {K : PySem.W.Frag} {H H' : Hp} {j q : Addr} {xs ys : List V} (e : Exj j H H') (hj : H j = some (.lst ys)) (h : SqT K H q xs) : SqT K H' q xs := by
  rcases h with (h | ⟨o, h⟩) | h
  · exact .inl (.inl (e _ _ (fun z => by rw [z, hj] at h; cases h) h))
  · exact .inl (.inr ⟨o, e _ _ (fun z => by rw [z, hj] at h; cases h) h⟩)
  · exact .inr h
theorem BkR.exj {K : PySem.W.Frag} {H H' : Hp} {j : Addr} {ys : List V} {v : V} {k : Bk} (h : BkR K H v k) (e : Exj j H H') (hj : H j = some (.lst ys)) : BkR K H' v k := let ⟨q, a, b⟩ := h; ⟨q, a, sqT_exj e hj b⟩
theorem nilD {α : Type} {e : α → PyData} {K : PySem.W.Frag} {H : Hp} {p : Addr} (h : H p = some (.lst [])) : Dp K H (.ref p) (eL e []) := .lst (sqI h) .nil
def sp_check_marks_there (K : PySem.W.Frag) : Sp := fun vs H Q _ => ∃ (a m : Addr) (ns ms : List Int), vs = [.ref a, .ref m] ∧ SqL K H a (ns.map V.int) ∧ SqL K H m (ms.map V.int) ∧ ns.length ≤ 1000 ∧ ms.Pairwise (· < ·) ∧ ms.length ≤ 1000 ∧ (∀ r ∈ ms, r ∈ ns) ∧ ∀ H', Ex H H' → Q .non H'
def sp_borders_in (K : PySem.W.Frag) : Sp := fun vs H Q _ => ∃ (a m : Addr) (ns ms : List Int), vs = [.ref a, .ref m] ∧ SqL K H a (ns.map V.int) ∧ SqL K H m (ms.map V.int) ∧ ns.length ≤ 500 ∧ New (.lst ((bordersL ns ms).map V.int)) H Q
def sp_blocks_of (K : PySem.W.Frag) : Sp := fun vs H Q _ => ∃ (a : Addr) (ps : List Int), vs = [.ref a] ∧ SqL K H a (ps.map V.int) ∧ ps.length ≤ 1000 ∧ ∀ p H' us, H p = none → Ex H H' → H' p = some (.lst us) → AllR (BkR K H') us (blocksL ps) → Q (.ref p) H'
def sp_cost_in (K : PySem.W.Frag) : Sp := fun vs H Q _ => ∃ (a m : Addr) (ns ms : List Int), vs = [.ref a, .ref m] ∧ SqL K H a (ns.map V.int) ∧ SqL K H m (ms.map V.int) ∧ ns.length ≤ 500 ∧ ∀ H', Ex H H' → Q (.int (costL ns ms)) H'
def sp_borders (K : PySem.W.Frag) : Sp := fun vs H Q _ => ∃ (a m : Addr) (ns ms : List Int), vs = [.ref a, .ref m] ∧ SqL K H a (ns.map V.int) ∧ SqL K H m (ms.map V.int) ∧ ns.Nodup ∧ ns.length ≤ 500 ∧ ms.Pairwise (· < ·) ∧ ms.length ≤ 1000 ∧ ∀ p H', H p = none → Ex H H' → H' p = some (.lst ((bordersL ns ms).map V.int)) → Q (.ref p) H'
def sp_cost (K : PySem.W.Frag) : Sp := fun vs H Q _ => ∃ (a m : Addr) (ns ms : List Int), vs = [.ref a, .ref m] ∧ SqL K H a (ns.map V.int) ∧ SqL K H m (ms.map V.int) ∧ ns.Nodup ∧ ns.length ≤ 500 ∧ ms.Pairwise (· < ·) ∧ ms.length ≤ 1000 ∧ (∀ r ∈ ms, r ∈ ns) ∧ ∀ H', Ex H H' → Q (.int (costL ns ms)) H'
def sp_numbers_of_covers (K : PySem.W.Frag) : Sp := fun vs H Q _ => ∃ (a : Addr) (us : List V) (ks : List Bk), vs = [.ref a] ∧ SqL K H a us ∧ AllR (BkR K H) us ks ∧ ks.length ≤ 1000 ∧ ∀ p H', H p = none → Ex H H' → H' p = some (.lst ((ks.map numB).map V.int)) → Q (.ref p) H'
section
variable {w : World} {K : PySem.W.Frag} {mg : Str → Option Value} {base : Heap}
theorem ok_check_marks_there (T : Txt K mg) : FnOk PR w K mg base (L2.CX PR w) 3 T.a_check_marks_there T.d_check_marks_there ["there", "marks"] (sp_check_marks_there K) := by
  refine T.f_check_marks_there.okX sc_check_marks_there (fun vs H Q E h => ?_) (fun cdv A outer s H vs Q E hr h => ?_)
  · obtain ⟨a, m, ns, ms, rfl, _⟩ := h
    rfl
  · obtain ⟨a, m, ns, ms, rfl, ha, hm, nl, pw, hl, sub, k⟩ := h
    refine ⟨_, (pss_one (ps_if (PW.pt (pw_or (pt_not (pt_val (pe_call (ok_are_marks T) (hr.mono (by decide)) (by rfl) T.g_are_marks T.f_are_marks.kp (b_are_marks T) .nil pass0 (pa_cons (pv 1) pa_nil)))) (pw_or1 (pt_not (pt_val (pe_callB (cr_all rfl) (by rfl) T.z_all (by decide +kernel) (pa_cons (pe_lc (own := [("row", 2)]) (g := gName 2) (by rfl) sc_check_marks_there.nd (pi_list (pv 1)) (blkOk_by (own := [("row", 2)]) (N := ["there", "marks", "row"]) (sc := (defScope s_check_marks_there)) (by decide +kernel)) (fun _ _ _ _ _ => (pg_name (i := 2) sc_check_marks_there.nd rfl (by first | exact Or.inl rfl | exact Or.inr rfl))) (fun _ _ _ _ _ => pts_nil) (fun _ _ _ _ _ => (pe_cmpR (opK (r := fun K => rIn K false) (K := K) (by rfl) op_in_seq) (pv 2) (pv 0) (by rfl)))) pa_nil))))))) (pss_one (ps_raise rfl (takes_of rfl rfl rfl rfl) (pmk_err (ok_init T) (b_init T) T.e_InvalidMarks (hr.mono (by decide)) (by rfl) T.g_InvalidMarks (pa_cons (pe_callTy call_listG (by rfl) T.z_list (by decide +kernel) (pa_cons (pv 1) pa_nil)) pa_nil)))) pss_nil)), ?_⟩
    refine ⟨_, rfl, m, ms, rfl, hm, pw, hl, fun H1 e1 => ?_⟩
    refine ⟨_, rfl, ifF rfl ?_⟩
    refine ⟨_, rfl, m, rfl, ⟨_, Evl.ex_l e1 hm⟩, fun D hD => lc_mapL (K := K) (a := m) (ys := (ms.map fun _ => true).map V.bl) (Evl.ex_l e1 hm) hD (by simp) (by rw [List.length_map]; exact Nat.le_trans hl (by decide)) (fun x => rfl) ?_ ?_⟩
    · intro i x y H' e' hx hy R kR
      obtain ⟨c, hc, rfl⟩ := mapI_get hx
      rw [List.getElem?_map, List.getElem?_map, hc] at hy
      cases hy
      refine ⟨_, rfl, _, rfl, _, _, rfl, .inl (Evl.ex_l (e1.trans e') ha), rfl, flatI _, ?_⟩
      show R (.bl (inV (V.int c) (ns.map V.int))) _
      rw [inV_int, decide_eq_true (sub c (List.mem_of_getElem? hc))]
      exact kR H' (Evl.Ex.refl _)
    intro H2 e2 d2
    refine ⟨D, _, rfl, sqI d2, ?_⟩
    have : (ms.map fun _ => true).all id = true := by simp
    rw [this]
    exact ⟨_, rfl, ifF rfl (k H2 (e1.trans e2))⟩
theorem ok_borders_in (T : Txt K mg) : FnOk PR w K mg base CX0 1 T.a_borders_in T.d_borders_in ["there", "marks"] (sp_borders_in K) := by
  refine T.f_borders_in.ok sc_borders_in (fun vs H Q E h => ?_) (fun cdv A outer s H vs Q E hr h => ?_)
  · obtain ⟨a, m, ns, ms, rfl, _⟩ := h
    rfl
  · obtain ⟨a, m, ns, ms, rfl, ha, hm, nl, k⟩ := h
    refine ⟨_, (pss_cons (ps_set (i := 2) sc_borders_in.nd rfl (by first | exact Or.inl rfl | exact Or.inr rfl) (pe_op op_catG (pe_op op_catG (pe_lstG (pa_cons pe_bl pa_nil)) (pe_lc (own := [("row", 3)]) (g := gName 3) (by rfl) sc_borders_in.nd (pi_list (pv 0)) (blkOk_by (own := [("row", 3)]) (N := ["there", "marks", "flags", "row", "place"]) (sc := (defScope s_borders_in)) (by decide +kernel)) (fun _ _ _ _ _ => (pg_name (i := 3) sc_borders_in.nd rfl (by first | exact Or.inl rfl | exact Or.inr rfl))) (fun _ _ _ _ _ => pts_nil) (fun _ _ _ _ _ => (pe_cmpR (opK (r := fun K => rIn K false) (K := K) (by rfl) op_in_seq) (pv 3) (pv 1) (by rfl))))) (pe_lstG (pa_cons pe_bl pa_nil)))) (pss_one (ps_ret (pe_lc (own := [("place", 4)]) (g := gName 4) (by rfl) sc_borders_in.nd (pi_range1 (by rfl) T.z_range (pa_cons (pe_op op_add (pe_callB call_len_seq (by rfl) T.z_len PySem.boot_len (pa_cons (pv 0) pa_nil)) pe_int) pa_nil)) (blkOk_by (own := [("place", 4)]) (N := ["there", "marks", "flags", "row", "place"]) (sc := (defScope s_borders_in)) (by decide +kernel)) (fun _ _ _ _ _ => (pg_name (i := 4) sc_borders_in.nd rfl (by first | exact Or.inl rfl | exact Or.inr rfl))) (fun _ _ _ _ _ => (pts_one (pt_cmpR op_ne (pe_ix (ixK (r := rIxL) (K := K) (by rfl) ix_list) (pv 2) (pv 4) (fun _ _ => rfl)) (pe_ix (ixK (r := rIxL) (K := K) (by rfl) ix_list) (pv 2) (pe_op op_add (pv 4) pe_int) (fun _ _ => rfl)) (nomark _)))) (fun _ _ _ _ _ => (pv 4)))))), ?_⟩
    refine ⟨(by show 1 ≤ sizeLine; decide), fun p1 H1 n1 e1 h1 => ?_⟩
    refine ⟨_, rfl, a, rfl, ⟨_, Evl.ex_l e1 ha⟩, fun D hD => lc_mapL (K := K) (a := a) (ys := (ns.map fun r => decide (r ∈ ms)).map V.bl) (Evl.ex_l e1 ha) hD (by simp) (by rw [List.length_map]; exact Nat.le_trans nl (by decide)) (fun x => rfl) ?_ ?_⟩
    · intro i x y H' e' hx hy R kR
      obtain ⟨c, hc, rfl⟩ := mapI_get hx
      rw [List.getElem?_map, List.getElem?_map, hc] at hy
      cases hy
      refine ⟨_, rfl, _, rfl, _, _, rfl, .inl (Evl.ex_l (e1.trans e') hm), rfl, flatI _, ?_⟩
      show R (.bl (inV (V.int c) (ms.map V.int))) _
      rw [inV_int]
      exact kR H' (Evl.Ex.refl _)
    intro H2 e2 d2
    have sz : ([V.bl false] ++ (ns.map fun r => decide (r ∈ ms)).map V.bl).length + 1 ≤ sizeLine := by
      rw [List.length_append, List.length_map, List.length_map]
      exact Nat.le_trans (show 1 + ns.length + 1 ≤ 502 by omega) (by decide)
    refine ⟨_, _, _, _, rfl, rfl, e2 _ _ h1, d2, Nat.le_trans (show _ ≤ 501 by rw [List.length_map, List.length_map]; show 1 + ns.length ≤ 501; omega) (by decide), fun p3 H3 n3 e3 h3 => ?_⟩
    refine ⟨(by show 1 ≤ sizeLine; decide), fun p4 H4 n4 e4 h4 => ?_⟩
    refine ⟨_, _, _, _, rfl, rfl, e4 _ _ h3, h4, sz, fun p5 H5 n5 e5 h5 => ?_⟩
    have h5 : H5 p5 = some (.lst ((flagL ns ms).map V.bl)) := by
      rw [h5]
      unfold flagL
      rw [List.map_append, List.map_append]
      rfl
    have e05 := e1.trans (e2.trans (e3.trans (e4.trans e5)))
    have fl : (flagL ns ms).length = ns.length + 2 := by simp [flagL]
    have atF : ∀ i : Nat, i < ns.length + 2 → atI ((flagL ns ms).map V.bl) ((i : Nat) : Int) = some (.bl ((flagL ns ms).getD i false)) := fun i hi => by
      refine at_of (j := i) rfl ?_
      rw [List.getElem?_map, List.getD_eq_getElem?_getD, List.getElem?_eq_getElem (by omega)]
      rfl
    refine ⟨_, rfl, _, _, rfl, .inl (Evl.ex_l e05 ha), _, _, rfl, rfl, _, rfl, (by rw [List.length_map]; omega), (by rw [List.length_map]; omega), ?_⟩
    rw [List.length_map]
    refine fun D2 hD2 => lc_filtR (p := fun p => !decide ((flagL ns ms).getD p.toNat false = (flagL ns ms).getD (p.toNat + 1) false)) hD2 (by omega) (fun x => rfl) ?_ ?_ ?_
    · intro i H' hi e' Z kZ
      have hi : i < ns.length + 1 := by omega
      have ei : ((0 : Int) + (i : Int)).toNat = i := by omega
      have e6 : (0 : Int) + (i : Int) = ((i : Nat) : Int) := by omega
      have e7 : (0 : Int) + (i : Int) + 1 = ((i + 1 : Nat) : Int) := by omega
      refine ⟨_, rfl, _, rfl, _, _, _, _, rfl, rfl, sqI (e' _ _ h5), (by rw [e6]; exact atF i (by omega)), _, rfl, _, rfl, _, _, rfl, rfl, _, _, _, _, rfl, rfl, sqI (e' _ _ h5), (by rw [e7]; exact atF (i + 1) (by omega)), rfl, _, rfl, ?_⟩
      rw [decBl]
      have := kZ H' (Evl.Ex.refl _)
      rw [ei] at this
      exact this
    · intro v H' N kN
      exact ⟨_, rfl, kN⟩
    intro H6 e6 d6
    have e6' : (((ns.length : Nat) : Int) + 1).toNat = ns.length + 1 := by omega
    rw [e6'] at d6
    exact k D2 H6 (none_of e05 hD2) (e05.trans e6) d6
theorem ok_blocks_of (T : Txt K mg) : FnOk PR w K mg base CX0 1 T.a_blocks_of T.d_blocks_of ["places"] (sp_blocks_of K) := by
  refine T.f_blocks_of.ok sc_blocks_of (fun vs H Q E h => ?_) (fun cdv A outer s H vs Q E hr h => ?_)
  · obtain ⟨a, ps, rfl, _⟩ := h
    rfl
  · obtain ⟨a, ps, rfl, ha, hl, k⟩ := h
    refine ⟨_, (pss_cons (ps_set (i := 1) sc_blocks_of.nd rfl (by first | exact Or.inl rfl | exact Or.inr rfl) (pe_lstG pa_nil)) (pss_cons (ps_for PassesOwn.never rfl (pi_list (pv 0)) (pg_name (i := 2) sc_blocks_of.nd rfl (by first | exact Or.inl rfl | exact Or.inr rfl)) (pss_one (ps_if (PW.pt (pw_and (pt_cmpR (op_neD hr.units) (pv 1) (pe_lstG pa_nil) (nomark _)) (pw_and1 (pt_cmpR op_eq (pe_ix ix_tup (pe_ix ix_list (pv 1) (pe_un un_neg pe_int) (fun _ _ => rfl)) pe_int (fun _ _ => rfl)) (pe_op op_sub (pv 2) pe_int) (nomark _))))) (pss_one (ps_asg (pe_tupG (pa_cons (pe_ix ix_tup (pe_ix ix_list (pv 1) (pe_un un_neg pe_int) (fun _ _ => rfl)) pe_int (fun _ _ => rfl)) (pa_cons (pv 2) pa_nil))) (pg_sub (pv 1) (pe_un un_neg pe_int) set_list))) (pss_one (ps_expr (pe_bm PySem.F.plainAttrs_list PySem.F.slot_list_append PySem.F.type_list_append mt_append (pv 1) (pa_cons (pe_tupG (pa_cons (pv 2) (pa_cons (pv 2) pa_nil))) pa_nil))))))) (pss_one (ps_ret (pv 1))))), ?_⟩
    refine ⟨(by show 0 ≤ sizeLine; decide), fun F H1 nF e1 hF => ?_⟩
    refine ⟨_, rfl, a, rfl, ⟨_, Evl.ex_l e1 ha⟩, for_it (walk_list (K := K) (a := a) (xs := ps.map V.int)) (fun i σ H' => ∃ (v2 : Option V) (us : List V), σ = [some (.ref a), some (.ref F), v2] ∧ Ex H H' ∧ H' F = some (.lst us) ∧ AllR (BkR K H') us (blocksL (ps.take i))) ⟨_, [], rfl, e1, hF, AllR.nil⟩ (fun i σ H' _ ⟨_, _, _, e, _⟩ => Evl.ex_l e ha) ?_ ?_⟩
    · rintro i v σ HX H2 hi ⟨v2, us, rfl, e2, f2, a2⟩ ⟨rfl, hv⟩
      obtain ⟨b, hb, rfl⟩ := mapI_get hv
      have ul := a2.1
      have bl := blocks_len (ps.take i)
      have tl : (ps.take i).length ≤ i := by rw [List.length_take]; exact Nat.min_le_left _ _
      have hi' : i < ps.length := by simpa using hi
      have tk : blocksL (ps.take (i + 1)) = addB (blocksL (ps.take i)) b := by
        unfold blocksL
        rw [take_snoc hb, List.foldl_append]
        rfl
      have app : addB (blocksL (ps.take i)) b = blocksL (ps.take i) ++ [(b, b)] → ∀ {H3 : Hp}, Ex H2 H3 → H3 F = some (.lst us) ∧ us.length < sizeLine ∧ ∀ (p : Addr), H3 p = some (.tup [.int b, .int b]) → p ≠ F → ∃ (v2 : Option V) (us' : List V), [some (V.ref a), some (.ref F), some (.int b)] = [some (V.ref a), some (.ref F), v2] ∧ Ex H (upd H3 F (.lst (us ++ [.ref p]))) ∧ upd H3 F (.lst (us ++ [.ref p])) F = some (.lst us') ∧ AllR (BkR K (upd H3 F (.lst (us ++ [.ref p])))) us' (blocksL (ps.take (i + 1))) := fun ea H3 e3 => by
        refine ⟨e3 _ _ f2, Nat.lt_of_le_of_lt (show us.length ≤ 2000 by omega) (by decide), fun p hp np => ?_⟩
        have ej : Exj F H2 (upd H3 F (.lst (us ++ [.ref p]))) := (Exj.of e3).upd
        refine ⟨_, us ++ [.ref p], rfl, Evl.Ex.mut (e2.trans e3) nF, upd_same, ?_⟩
        rw [tk, ea]
        exact AllR.snoc (a2.mono fun v x r => r.exj ej f2) ⟨p, rfl, sqT (by rw [upd_ne np]; exact hp)⟩
      refine ⟨_, rfl, (by show 0 ≤ sizeLine; decide), fun p3 H3 n3 e3 h3 => ?_⟩
      have dF : Dp K H3 (.ref F) (eL eB (blocksL (ps.take i))) := .lst (sqI (e3 _ _ f2)) ((a2.mono fun v x r => r.ex e3).dp fun v x r => r.dp)
      refine neE (goodL goodBk) (by decide) (x := blocksL (ps.take i)) (y := []) dF (nilD h3) ⟨_, rfl, ?_⟩
      refine ifB (fun c => ?_) (fun c => ?_)
      · have ne : blocksL (ps.take i) ≠ [] := by simpa using c
        obtain ⟨l, kk, el⟩ := snoc_of ne
        rw [el] at a2 ul
        obtain ⟨us0, u, rfl⟩ : ∃ us0 u, us = us0 ++ [u] := snoc_of (fun z => by rw [z] at ul; simp at ul)
        have ul0 : us0.length = l.length := by simpa using ul
        obtain ⟨q, rfl, hq⟩ := a2.2 l.length u kk (by rw [← ul0]; simp) (by simp)
        have f3 := e3 _ _ f2
        have al : atI (us0 ++ [V.ref q]) (-1) = some (.ref q) := atI_last _ _
        refine ⟨_, rfl, _, rfl, _, _, _, _, rfl, rfl, sqI f3, al, _, _, _, _, rfl, rfl, Evl.ex_t e3 hq, at1, _, rfl, _, _, rfl, rfl, rfl, _, rfl, ?_⟩
        rw [decInt]
        refine ifB (fun c2 => ?_) (fun c2 => ?_)
        · have c2 : kk.2 = b - 1 := of_decide_eq_true c2
          have ea : addB (blocksL (ps.take i)) b = l ++ [(kk.1, b)] := by rw [el, addB_snoc, if_pos c2]
          refine ⟨_, rfl, _, rfl, _, _, _, _, rfl, rfl, sqI f3, al, _, _, _, _, rfl, rfl, Evl.ex_t e3 hq, at0, _, rfl, (by show 2 ≤ sizeLine; decide), fun p4 H4 n4 e4 h4 => ?_⟩
          have f4 := e4 _ _ f3
          have n4F : p4 ≠ F := (ne_of_none f3 n4).symm
          have ix : ixN (us0 ++ [V.ref q]).length (-1) = some us0.length := by
            rw [List.length_append]
            show ixN (us0.length + 1) (-1) = _
            unfold ixN
            simp
            omega
          refine ⟨_, rfl, _, rfl, _, _, _, _, rfl, rfl, f4, ix, ?_⟩
          have es : (us0 ++ [V.ref q]).set us0.length (.ref p4) = us0 ++ [.ref p4] := by simp
          rw [es]
          have ej : Exj F H2 (upd H4 F (.lst (us0 ++ [.ref p4]))) := (Exj.of (e3.trans e4)).upd
          refine ⟨_, us0 ++ [.ref p4], rfl, Evl.Ex.mut (e2.trans (e3.trans e4)) nF, upd_same, ?_⟩
          rw [tk, ea]
          have a0 : AllR (BkR K H2) us0 l := ⟨ul0, fun i' v x h1 h2 => a2.2 i' v x (by rw [List.getElem?_append_left (List.getElem?_eq_some_iff.mp h1).1]; exact h1) (by rw [List.getElem?_append_left (List.getElem?_eq_some_iff.mp h2).1]; exact h2)⟩
          exact AllR.snoc (a0.mono fun v x r => r.exj ej f2) ⟨p4, rfl, sqT (by rw [upd_ne n4F]; exact h4)⟩
        · have c2 : ¬ kk.2 = b - 1 := of_decide_eq_false c2
          have ea : addB (blocksL (ps.take i)) b = blocksL (ps.take i) ++ [(b, b)] := by rw [el, addB_snoc, if_neg c2]
          refine ⟨_, rfl, .inl ⟨rfl, _, sqI f3⟩, _, rfl, _, rfl, (by show 2 ≤ sizeLine; decide), fun p4 H4 n4 e4 h4 => ?_⟩
          obtain ⟨g1, g2, g3⟩ := app ea (e3.trans e4)
          exact ⟨_, _, _, rfl, rfl, g1, g2, g3 p4 h4 (ne_of_none f3 n4).symm⟩
      · have e : blocksL (ps.take i) = [] := by simpa using c
        have ea : addB (blocksL (ps.take i)) b = blocksL (ps.take i) ++ [(b, b)] := by rw [e]; rfl
        have f3 := e3 _ _ f2
        refine ⟨_, rfl, .inl ⟨rfl, _, sqI f3⟩, _, rfl, _, rfl, (by show 2 ≤ sizeLine; decide), fun p4 H4 n4 e4 h4 => ?_⟩
        obtain ⟨g1, g2, g3⟩ := app ea (e3.trans e4)
        exact ⟨_, _, _, rfl, rfl, g1, g2, g3 p4 h4 (ne_of_none f3 n4).symm⟩
    · rintro σ H2 ⟨v2, us, rfl, e2, f2, a2⟩
      rw [List.length_map, List.take_length] at a2
      exact ⟨_, rfl, k F H2 us nF e2 f2 a2⟩
theorem ok_cost_in (T : Txt K mg) : FnOk PR w K mg base CX0 2 T.a_cost_in T.d_cost_in ["there", "marks"] (sp_cost_in K) := by
  refine T.f_cost_in.ok sc_cost_in (fun vs H Q E h => ?_) (fun cdv A outer s H vs Q E hr h => ?_)
  · obtain ⟨a, m, ns, ms, rfl, _⟩ := h
    rfl
  · obtain ⟨a, m, ns, ms, rfl, ha, hm, nl, k⟩ := h
    refine ⟨_, (pss_one (ps_ret (pe_callB (cr_sum rfl) (by rfl) T.z_sum (by decide +kernel) (pa_cons (pe_lc (own := [("first", 2), ("last", 3)]) (g := (gTup K 2 (gCons (gName 2) (gCons (gName 3) gNil)))) (by rfl) sc_cost_in.nd (pi_list (pe_call (ok_blocks_of T) (hr.mono (by decide)) (by rfl) T.g_blocks_of T.f_blocks_of.kp (b_blocks_of T) .nil pass0 (pa_cons (pe_call (ok_borders_in T) (hr.mono (by decide)) (by rfl) T.g_borders_in T.f_borders_in.kp (b_borders_in T) .nil pass0 (pa_cons (pv 0) (pa_cons (pv 1) pa_nil))) pa_nil))) (blkOk_by (own := [("first", 2), ("last", 3)]) (N := ["there", "marks", "first", "last"]) (sc := (defScope s_cost_in)) (by decide +kernel)) (fun _ _ _ _ _ => (pg_tup rfl (pgs_cons (pg_name (i := 2) sc_cost_in.nd rfl (by first | exact Or.inl rfl | exact Or.inr rfl)) (pgs_cons (pg_name (i := 3) sc_cost_in.nd rfl (by first | exact Or.inl rfl | exact Or.inr rfl)) pgs_nil)))) (fun _ _ _ _ _ => pts_nil) (fun _ _ _ _ _ => (pe_op op_fdivW (pe_op op_add (pe_op op_sub (pv 3) (pv 2)) pe_int) pe_int))) pa_nil)))), ?_⟩
    have bl := borders_len ns ms
    have kl := blocks_len (bordersL ns ms)
    refine ⟨_, rfl, _, rfl, a, m, ns, ms, rfl, ha, hm, nl, fun p1 H1 n1 e1 h1 => ?_⟩
    refine ⟨p1, bordersL ns ms, rfl, sqI h1, by omega, fun p2 H2 us n2 e2 h2 a2 => ?_⟩
    refine ⟨p2, rfl, ⟨_, sqI h2⟩, fun D hD => lc_mapG (K := K) (a := p2) (ys := ((blocksL (bordersL ns ms)).map costB).map V.int) (sqI h2) hD (by rw [List.length_map, List.length_map]; exact a2.1.symm) (by rw [a2.1]; exact Nat.le_trans (show _ ≤ 600 by omega) (by decide)) ?_ ?_⟩
    · intro i x y H' e' hx hy N Z kN
      obtain ⟨kk, hki, q, rfl, hq⟩ := AllR.get a2 hx
      rw [List.getElem?_map, List.getElem?_map, hki] at hy
      cases hy
      refine ⟨_, _, rfl, Evl.ex_t e' hq, rfl, _, _, rfl, _, _, rfl, rfl, rfl, ?_⟩
      show _
      exact ⟨_, rfl, _, rfl, _, _, rfl, rfl, _, _, rfl, rfl, _, _, rfl, rfl, wide_div (b := 20) (by decide) (by decide) (by decide) (by decide), kN H' (Evl.Ex.refl _)⟩
    intro H3 e3 d3
    exact ⟨D, _, rfl, sqI d3, k H3 (e1.trans (e2.trans e3))⟩
theorem ok_borders (T : Txt K mg) : FnOk PR w K mg base (L2.CX PR w) 4 T.a_borders T.d_borders ["there", "marks"] (sp_borders K) := by
  refine T.f_borders.okX sc_borders (fun vs H Q E h => ?_) (fun cdv A outer s H vs Q E hr h => ?_)
  · obtain ⟨a, m, ns, ms, rfl, _⟩ := h
    rfl
  · obtain ⟨a, m, ns, ms, rfl, ha, hm, nd, nl, pw, ml, k⟩ := h
    refine ⟨_, (pss_cons (ps_expr (pe_call (ok_check_there T) (hr.mono (by decide)) (by rfl) T.g_check_there T.f_check_there.kp (b_check_there T) .nil passX (pa_cons (pv 0) pa_nil))) (pss_cons (ps_expr (pe_call (ok_check_marks T) (hr.mono (by decide)) (by rfl) T.g_check_marks T.f_check_marks.kp (b_check_marks T) .nil passX (pa_cons (pv 1) pa_nil))) (pss_one (ps_ret (pe_call (ok_borders_in T) (hr.mono (by decide)) (by rfl) T.g_borders_in T.f_borders_in.kp (b_borders_in T) .nil pass0 (pa_cons (pv 0) (pa_cons (pv 1) pa_nil))))))), ?_⟩
    refine ⟨_, rfl, a, ns, rfl, ha, nd, by omega, ?_⟩
    refine ⟨_, rfl, m, ms, rfl, hm, pw, ml, fun H1 e1 => ?_⟩
    exact ⟨_, rfl, _, rfl, a, m, ns, ms, rfl, Evl.ex_l e1 ha, Evl.ex_l e1 hm, nl, fun p H2 n2 e2 h2 => k p H2 (none_of e1 n2) (e1.trans e2) h2⟩
theorem ok_cost (T : Txt K mg) : FnOk PR w K mg base (L2.CX PR w) 4 T.a_cost T.d_cost ["there", "marks"] (sp_cost K) := by
  refine T.f_cost.okX sc_cost (fun vs H Q E h => ?_) (fun cdv A outer s H vs Q E hr h => ?_)
  · obtain ⟨a, m, ns, ms, rfl, _⟩ := h
    rfl
  · obtain ⟨a, m, ns, ms, rfl, ha, hm, nd, nl, pw, ml, sub, k⟩ := h
    refine ⟨_, (pss_cons (ps_expr (pe_call (ok_check_there T) (hr.mono (by decide)) (by rfl) T.g_check_there T.f_check_there.kp (b_check_there T) .nil passX (pa_cons (pv 0) pa_nil))) (pss_cons (ps_expr (pe_call (ok_check_marks_there T) (hr.mono (by decide)) (by rfl) T.g_check_marks_there T.f_check_marks_there.kp (b_check_marks_there T) .nil passX (pa_cons (pv 0) (pa_cons (pv 1) pa_nil)))) (pss_one (ps_ret (pe_call (ok_cost_in T) (hr.mono (by decide)) (by rfl) T.g_cost_in T.f_cost_in.kp (b_cost_in T) .nil pass0 (pa_cons (pv 0) (pa_cons (pv 1) pa_nil))))))), ?_⟩
    refine ⟨_, rfl, a, ns, rfl, ha, nd, by omega, ?_⟩
    refine ⟨_, rfl, _, rfl, a, m, ns, ms, rfl, ha, hm, by omega, pw, ml, sub, fun H1 e1 => ?_⟩
    exact ⟨_, rfl, _, rfl, a, m, ns, ms, rfl, Evl.ex_l e1 ha, Evl.ex_l e1 hm, nl, fun H2 e2 => k H2 (e1.trans e2)⟩
theorem ok_numbers_of_covers (T : Txt K mg) : FnOk PR w K mg base CX0 1 T.a_numbers_of_covers T.d_numbers_of_covers ["blocks"] (sp_numbers_of_covers K) := by
  refine T.f_numbers_of_covers.ok sc_numbers_of_covers (fun vs H Q E h => ?_) (fun cdv A outer s H vs Q E hr h => ?_)
  · obtain ⟨a, us, ks, rfl, _⟩ := h
    rfl
  · obtain ⟨a, us, ks, rfl, ha, hk, hl, k⟩ := h
    refine ⟨_, (pss_cons (ps_set (i := 1) sc_numbers_of_covers.nd rfl (by first | exact Or.inl rfl | exact Or.inr rfl) (pe_lstG pa_nil)) (pss_cons (ps_for PassesOwn.never rfl (pi_list (pv 0)) (pg_tup rfl (pgs_cons (pg_name (i := 2) sc_numbers_of_covers.nd rfl (by first | exact Or.inl rfl | exact Or.inr rfl)) (pgs_cons (pg_name (i := 3) sc_numbers_of_covers.nd rfl (by first | exact Or.inl rfl | exact Or.inr rfl)) pgs_nil))) (pss_cons (ps_set (i := 4) sc_numbers_of_covers.nd rfl (by first | exact Or.inl rfl | exact Or.inr rfl) (pe_op op_add (pe_op op_sub (pv 3) (pv 2)) pe_int)) (pss_one (ps_expr (pe_bm PySem.F.plainAttrs_list PySem.F.slot_list_append PySem.F.type_list_append mt_append (pv 1) (pa_cons (pe_cut (pe_ifExp (pt_cmpR op_eq (pe_op op_mod (pv 4) pe_int) pe_int (nomark _)) (pe_op op_add (pe_op op_fdivW (pv 4) pe_int) pe_int) pe_int)) pa_nil)))))) (pss_one (ps_ret (pv 1))))), ?_⟩
    have ul := hk.1
    refine ⟨(by show 0 ≤ sizeLine; decide), fun F H1 nF e1 hF => ?_⟩
    refine ⟨_, rfl, a, rfl, ⟨_, Evl.ex_l e1 ha⟩, for_it (walk_list (K := K) (a := a) (xs := us)) (fun i σ H' => ∃ (v2 v3 v4 : Option V), σ = [some (.ref a), some (.ref F), v2, v3, v4] ∧ Ex H H' ∧ H' F = some (.lst (((ks.take i).map numB).map V.int))) ⟨_, _, _, rfl, e1, hF⟩ (fun i σ H' _ ⟨_, _, _, _, e, _⟩ => Evl.ex_l e ha) ?_ ?_⟩
    · rintro i v σ HX H2 hi ⟨v2, v3, v4, rfl, e2, f2⟩ ⟨rfl, hv⟩
      obtain ⟨kk, hki, q, rfl, hq⟩ := AllR.get hk hv
      refine ⟨_, _, rfl, Evl.ex_t e2 hq, rfl, _, _, rfl, _, _, rfl, rfl, ?_⟩
      refine ⟨_, rfl, _, rfl, _, _, rfl, rfl, _, _, rfl, rfl, ?_⟩
      have fin : H2 F = some (.lst (((ks.take i).map numB).map V.int)) ∧ (((ks.take i).map numB).map V.int).length < sizeLine := ⟨f2, by
        rw [List.length_map, List.length_map, List.length_take]
        exact Nat.lt_of_le_of_lt (show _ ≤ 1000 by omega) (by decide)⟩
      have nb : numB kk = if (kk.2 - kk.1 + 1) % 2 = 1 then (kk.2 - kk.1 + 1) / 2 + 1 else 1 := rfl
      have done : ∀ z : Int, z = numB kk → Ex H (upd H2 F (.lst (((ks.take i).map numB).map V.int ++ [.int z]))) ∧ upd H2 F (.lst (((ks.take i).map numB).map V.int ++ [.int z])) F = some (.lst (((ks.take (i + 1)).map numB).map V.int)) := fun z hz => ⟨Evl.Ex.mut e2 nF, by
        rw [upd_same, take_snoc hki, List.map_append, List.map_append, hz]
        rfl⟩
      refine ⟨_, rfl, .inl ⟨rfl, _, sqI f2⟩, fun v H' => v = .int (numB kk) ∧ H' = H2, ?_, ?_⟩
      · refine ⟨_, rfl, _, _, rfl, rfl, (show (0 : Int) < 2 by decide), rfl, _, rfl, ?_⟩
        rw [decInt]
        refine ifB (fun c => ?_) (fun c => ?_)
        · have c := of_decide_eq_true c
          refine ⟨_, rfl, _, _, rfl, rfl, wide_div (b := 20) (by decide) (by decide) (by decide) (by decide), _, _, rfl, rfl, ?_, rfl⟩
          rw [nb, if_pos c]
        · have c := of_decide_eq_false c
          refine ⟨?_, rfl⟩
          rw [nb, if_neg c]
      · rintro v H' ⟨rfl, rfl⟩
        obtain ⟨g1, g2⟩ := done _ rfl
        exact ⟨_, _, _, rfl, rfl, fin.1, fin.2, _, _, _, rfl, g1, g2⟩
    · rintro σ H2 ⟨v2, v3, v4, rfl, e2, f2⟩
      rw [ul, List.take_length] at f2
      exact ⟨_, rfl, k F H2 nF e2 f2⟩
end
end K76
set_option Elab.async false
set_option pp.maxSteps 1200
set_option linter.all false
set_option maxRecDepth 100000
set_option maxHeartbeats 4000000
namespace K76
open PySem L2 My
/-! covers of the borders by clicks -/
theorem blocks_le (ps : List Int) : ∀ k ∈ blocksL ps, k.1 ≤ k.2 := by
  have go : ∀ (ps : List Int) (bs : List Bk), (∀ k ∈ bs, k.1 ≤ k.2) → ∀ k ∈ ps.foldl addB bs, k.1 ≤ k.2 := fun ps => by
    induction ps with
    | nil => intro bs h; exact h
    | cons p ps ih =>
      intro bs hb
      refine ih (addB bs p) fun k hk => ?_
      unfold addB at hk
      split at hk
      · rcases List.mem_append.mp hk with z | z
        · exact hb k z
        · rw [List.mem_singleton.mp z]; exact Int.le_refl _
      · rename_i l hl
        have ll := hb l (List.mem_of_getLast? hl)
        split at hk
        · rename_i c
          rcases List.mem_append.mp hk with z | z
          · exact hb k (List.dropLast_subset _ z)
          · rw [List.mem_singleton.mp z]
            show l.1 ≤ p
            omega
        · rcases List.mem_append.mp hk with z | z
          · exact hb k z
          · rw [List.mem_singleton.mp z]; exact Int.le_refl _
  exact go ps [] (fun k hk => by cases hk)
theorem numB_pos {k : Bk} (h : k.1 ≤ k.2) : 1 ≤ numB k := by
  unfold numB
  split <;> omega
theorem numB_le {k : Bk} (h : k.1 ≤ k.2) : numB k ≤ k.2 - k.1 + 2 := by
  unfold numB
  split <;> omega
def coverGo (k : Bk) (c : Int) : Nat → Int → List (List Int)
  | 0, _ => []
  | n + 1, b => if b ≤ k.2 then (if (k.2 - k.1) % 2 = 0 ∧ b = k.1 + 2 * c then [b] :: coverGo k c n (b + 1) else [b, b + 1] :: coverGo k c n (b + 2)) else []
def coverB (k : Bk) (c : Int) : List (List Int) := coverGo k c (k.2 - k.1 + 1).toNat k.1
theorem coverGo_len (k : Bk) (c : Int) : ∀ n b, (coverGo k c n b).length ≤ n
  | 0, _ => Nat.le_refl _
  | n + 1, b => by
    unfold coverGo
    have h1 := coverGo_len k c n (b + 1)
    have h2 := coverGo_len k c n (b + 2)
    split
    · split
      · rw [List.length_cons]; omega
      · rw [List.length_cons]; omega
    · exact Nat.zero_le _
def chG : List Int → Int → List Int
  | [], _ => []
  | n :: r, i => (i % n) :: chG r (i / n)
theorem chG_len : ∀ (l : List Int) (i : Int), (chG l i).length = l.length
  | [], _ => rfl
  | n :: r, i => by rw [chG, List.length_cons, List.length_cons, chG_len r]
theorem chG_bound : ∀ (l : List Int) (i : Int), (∀ n ∈ l, 1 ≤ n ∧ n ≤ 502) → ∀ c ∈ chG l i, 0 ≤ c ∧ c ≤ 502
  | [], _, _, c, hc => by cases hc
  | n :: r, i, h, c, hc => by
    obtain ⟨h1, h2⟩ := h n List.mem_cons_self
    rcases List.mem_cons.mp hc with z | z
    · rw [z]
      have := Int.emod_nonneg i (show n ≠ 0 by omega)
      have := Int.emod_lt_of_pos i (show 0 < n by omega)
      omega
    · exact chG_bound r (i / n) (fun m hm => h m (List.mem_cons_of_mem _ hm)) c z
theorem coverB_len {k : Bk} {c : Int} (h : k.2 - k.1 ≤ 500) : (coverB k c).length ≤ 501 := by
  have := coverGo_len k c (k.2 - k.1 + 1).toNat k.1
  unfold coverB
  omega
def restG : List Int → Int → Int
  | [], i => i
  | n :: r, i => restG r (i / n)
theorem chG_take : ∀ (l : List Int) (i : Int) (j : Nat) (n : Int), l[j]? = some n → chG (l.take (j + 1)) i = chG (l.take j) i ++ [restG (l.take j) i % n] ∧ restG (l.take (j + 1)) i = restG (l.take j) i / n
  | [], _, j, n, h => by cases j <;> cases h
  | a :: l, i, 0, n, h => by
    cases h
    exact ⟨rfl, rfl⟩
  | a :: l, i, j + 1, n, h => by
    have h : l[j]? = some n := h
    obtain ⟨h1, h2⟩ := chG_take l (i / a) j n h
    refine ⟨?_, ?_⟩
    · show (i % a) :: chG (l.take (j + 1)) (i / a) = (i % a) :: (chG (l.take j) (i / a) ++ [restG (l.take j) (i / a) % n])
      rw [h1]
    · exact h2
def coverL (bs : List Bk) (index : Int) : List (List Int) := (bs.zip (chG (bs.map numB).reverse index).reverse).flatMap fun kc => coverB kc.1 kc.2
def singlesL (cover : List (List Int)) : List Int := (cover.filter fun t => decide (t.length = 1)).map fun t => t.getD 0 0
def pairsL : List Int → List (Str × Int)
  | a :: b :: r => ("click", a) :: ("range", b - 1) :: pairsL r
  | _ => []
def clicksL (cover : List (List Int)) : List (Str × Int) := pairsL (singlesL cover) ++ (cover.filter fun t => decide (t.length = 2)).map fun t => (("click" : Str), t.getD 0 0)
end K76
namespace K76
open PySem L2 My
theorem pairs_snoc : ∀ (l : List Int) (a b : Int), l.length % 2 = 0 → pairsL (l ++ [a, b]) = pairsL l ++ [(("click" : Str), a), (("range" : Str), b - 1)]
  | [], _, _, _ => rfl
  | [x], _, _, h => by simp at h
  | x :: y :: l, a, b, h => by
    have ih := pairs_snoc l a b (by simp only [List.length_cons] at h; omega)
    show ((("click" : Str), x) :: (("range" : Str), y - 1) :: pairsL (l ++ [a, b])) = (("click" : Str), x) :: (("range" : Str), y - 1) :: (pairsL l ++ [(("click" : Str), a), (("range" : Str), b - 1)])
    rw [ih]
theorem pairs_take {s : List Int} {i : Nat} (h : 2 * i + 1 < s.length) : pairsL (s.take (2 * (i + 1))) = pairsL (s.take (2 * i)) ++ [(("click" : Str), s.getD (2 * i) 0), (("range" : Str), s.getD (2 * i + 1) 0 - 1)] := by
  have e : s.take (2 * (i + 1)) = s.take (2 * i) ++ [s.getD (2 * i) 0, s.getD (2 * i + 1) 0] := by
    have h1 : s[2 * i]? = some (s.getD (2 * i) 0) := by rw [List.getD_eq_getElem?_getD, List.getElem?_eq_getElem (by omega)]; rfl
    have h2 : s[2 * i + 1]? = some (s.getD (2 * i + 1) 0) := by rw [List.getD_eq_getElem?_getD, List.getElem?_eq_getElem (by omega)]; rfl
    rw [show 2 * (i + 1) = 2 * i + 1 + 1 by omega, take_snoc h2, take_snoc h1, List.append_assoc]
    rfl
  rw [e, pairs_snoc]
  rw [List.length_take]
  omega
theorem pairs_len : ∀ l : List Int, (pairsL l).length ≤ l.length
  | [] => Nat.le_refl _
  | [x] => Nat.zero_le _
  | x :: y :: l => by
    have := pairs_len l
    show (pairsL l).length + 1 + 1 ≤ l.length + 1 + 1
    omega
theorem singles_len (c : List (List Int)) : (singlesL c).length ≤ c.length := by
  unfold singlesL
  rw [List.length_map]
  exact List.length_filter_le _ _
theorem rg_two {n : Nat} (h : n ≤ 1000000) (e : n % 2 = 0) : RgC 0 (n : Int) 2 (n / 2) := by
  have rs : Builtin.Range.rangeSize 0 (n : Int) 2 = ((n / 2 : Nat) : Int) := by
    rw [PyProof.Rows.rangeSize_pos (by decide) (by omega)]
    omega
  refine ⟨by decide, by decide, ?_, rs⟩
  unfold Builtin.Range.small
  rw [rs]
  have fit : ∀ x : Int, -2000000 ≤ x → x ≤ 2000000 → Builtin.Range.rangeFitsLong x = true := fun x h1 h2 => by
    unfold Builtin.Range.rangeFitsLong
    rw [Bool.and_eq_true, decide_eq_true_eq, decide_eq_true_eq]
    omega
  show (Builtin.Range.rangeFitsLong 0 && Builtin.Range.rangeFitsLong (n : Int) && Builtin.Range.rangeFitsLong 2 && _ && _) = true
  rw [fit 0 (by decide) (by decide), fit n (by omega) (by omega), fit 2 (by decide) (by decide), fit ((n / 2 : Nat) : Int) (by omega) (by omega), if_pos (by decide), fit ((n : Int) + (2 - 1)) (by omega) (by omega)]
  simp
end K76
set_option Elab.async false
set_option pp.maxSteps 1200
set_option linter.all false
set_option maxRecDepth 100000
set_option maxHeartbeats 4000000
namespace K76
open PySem L2 My
/-- a token in the heap -/
def TkR (K : PySem.W.Frag) (H : Hp) (v : V) (t : List Int) : Prop := ∃ q, v = .ref q ∧ SqT K H q (t.map V.int)
theorem TkR.ex {K : PySem.W.Frag} {H H' : Hp} {v : V} {t : List Int} (h : TkR K H v t) (e : Ex H H') : TkR K H' v t := let ⟨q, a, b⟩ := h; ⟨q, a, Evl.ex_t e b⟩
theorem TkR.exj {K : PySem.W.Frag} {H H' : Hp} {j : Addr} {ys : List V} {v : V} {t : List Int} (h : TkR K H v t) (e : Exj j H H') (hj : H j = some (.lst ys)) : TkR K H' v t := let ⟨q, a, b⟩ := h; ⟨q, a, sqT_exj e hj b⟩
theorem st_eq {P : L2.St → Prop} {σ σ' : L2.St} (e : σ = σ') (h : P σ') : P σ := e ▸ h
def sp_block_cover (K : PySem.W.Frag) : Sp := fun vs H Q _ => ∃ (q : Addr) (k : Bk) (c : Int), vs = [.ref q, .int c] ∧ SqT K H q [.int k.1, .int k.2] ∧ k.2 - k.1 ≤ 1000 ∧ 0 ≤ c ∧ c ≤ 1000 ∧ ∀ p H' us, H p = none → Ex H H' → H' p = some (.lst us) → AllR (TkR K H') us (coverB k c) → Q (.ref p) H'
def sp_cover_in (K : PySem.W.Frag) : Sp := fun vs H Q _ => ∃ (a m : Addr) (ns ms : List Int) (ix : Int), vs = [.ref a, .ref m, .int ix] ∧ SqL K H a (ns.map V.int) ∧ SqL K H m (ms.map V.int) ∧ ns.length ≤ 400 ∧ 0 ≤ ix ∧ ∀ p H' us, H p = none → Ex H H' → H' p = some (.lst us) → AllR (TkR K H') us (coverL (blocksL (bordersL ns ms)) ix) → Q (.ref p) H'
section
variable {w : World} {K : PySem.W.Frag} {mg : Str → Option Value} {base : Heap}
theorem ok_block_cover (T : Txt K mg) : FnOk PR w K mg base CX0 1 T.a_block_cover T.d_block_cover ["block", "choice"] (sp_block_cover K) := by
  refine T.f_block_cover.ok sc_block_cover (fun vs H Q E h => ?_) (fun cdv A outer s H vs Q E hr h => ?_)
  · obtain ⟨q, kk, c, rfl, _⟩ := h
    rfl
  · obtain ⟨q, kk, c, rfl, hq, kl, c0, c1, k⟩ := h
    refine ⟨_, (pss_cons (ps_asg (pv 0) (pg_tup rfl (pgs_cons (pg_name (i := 2) sc_block_cover.nd rfl (by first | exact Or.inl rfl | exact Or.inr rfl)) (pgs_cons (pg_name (i := 3) sc_block_cover.nd rfl (by first | exact Or.inl rfl | exact Or.inr rfl)) pgs_nil)))) (pss_cons (ps_set (i := 4) sc_block_cover.nd rfl (by first | exact Or.inl rfl | exact Or.inr rfl) (pe_lstG pa_nil)) (pss_cons (ps_set (i := 5) sc_block_cover.nd rfl (by first | exact Or.inl rfl | exact Or.inr rfl) (pv 2)) (pss_cons (ps_while PassesOwn.never (pt_cmpR op_le (pv 5) (pv 3) (nomark _)) (pss_one (ps_if (PW.pt (pw_and (pt_cmpR op_eq (pe_op op_mod (pe_op op_sub (pv 3) (pv 2)) pe_int) pe_int (nomark _)) (pw_and1 (pt_cmpR op_eq (pv 5) (pe_op op_add (pv 2) (pe_op op_mulW pe_int (pv 1))) (nomark _))))) (pss_cons (ps_expr (pe_bm PySem.F.plainAttrs_list PySem.F.slot_list_append PySem.F.type_list_append mt_append (pv 4) (pa_cons (pe_tupG (pa_cons (pv 5) pa_nil)) pa_nil))) (pss_one (ps_aug (i := 5) sc_block_cover.nd rfl (by first | exact Or.inl rfl | exact Or.inr rfl) pe_int ip_add (by first | exact Or.inl rfl | exact Or.inr rfl)))) (pss_cons (ps_expr (pe_bm PySem.F.plainAttrs_list PySem.F.slot_list_append PySem.F.type_list_append mt_append (pv 4) (pa_cons (pe_tupG (pa_cons (pv 5) (pa_cons (pe_op op_add (pv 5) pe_int) pa_nil))) pa_nil))) (pss_one (ps_aug (i := 5) sc_block_cover.nd rfl (by first | exact Or.inl rfl | exact Or.inr rfl) pe_int ip_add (by first | exact Or.inl rfl | exact Or.inr rfl))))))) (pss_one (ps_ret (pv 4))))))), ?_⟩
    refine ⟨_, rfl, _, _, rfl, hq, rfl, _, _, rfl, _, _, rfl, rfl, ?_⟩
    refine ⟨(by show 0 ≤ sizeLine; decide), fun F H1 nF e1 hF => ?_⟩
    refine ⟨_, rfl, ?_⟩
    refine st_eq (σ' := [some (.ref q), some (.int c), some (.int kk.1), some (.int kk.2), some (.ref F), none]) (P := fun σ => gName 5 (V.int kk.1) σ H1 _) rfl ?_
    have e1' : Ex H H1 := e1
    refine ⟨fun m σ' H' => ∃ (b : Int) (us : List V) (ts : List (List Int)), σ' = [some (.ref q), some (.int c), some (.int kk.1), some (.int kk.2), some (.ref F), some (.int b)] ∧ Ex H H' ∧ H' F = some (.lst us) ∧ AllR (TkR K H') us ts ∧ ts ++ coverGo kk c m b = coverB kk c ∧ (kk.2 - b + 1).toNat ≤ m ∧ ts.length + m ≤ 1001, ⟨(kk.2 - kk.1 + 1).toNat, kk.1, [], [], rfl, e1, hF, AllR.nil, rfl, Nat.le_refl _, by show 0 + _ ≤ 1001; omega⟩, ?_⟩
    rintro m σ' H2 ⟨b, us, ts, rfl, e2, f2, a2, g2, m2, l2⟩
    have ul := a2.1
    refine ⟨_, rfl, _, rfl, _, _, rfl, rfl, _, rfl, ?_⟩
    refine ifB (fun cc => ?_) (fun cc => ?_)
    · have cc : b ≤ kk.2 := of_decide_eq_true cc
      obtain ⟨m', rfl⟩ : ∃ m', m = m' + 1 := ⟨m - 1, by omega⟩
      refine ⟨fun σ'' H'' => ∃ m2, m2 < m' + 1 ∧ ∃ (b : Int) (us : List V) (ts : List (List Int)), σ'' = [some (.ref q), some (.int c), some (.int kk.1), some (.int kk.2), some (.ref F), some (.int b)] ∧ Ex H H'' ∧ H'' F = some (.lst us) ∧ AllR (TkR K H'') us ts ∧ ts ++ coverGo kk c m2 b = coverB kk c ∧ (kk.2 - b + 1).toNat ≤ m2 ∧ ts.length + m2 ≤ 1001, fun _ _ h => h, ?_⟩
      have gs : coverGo kk c (m' + 1) b = if (kk.2 - kk.1) % 2 = 0 ∧ b = kk.1 + 2 * c then [b] :: coverGo kk c m' (b + 1) else [b, b + 1] :: coverGo kk c m' (b + 2) := by
        rw [coverGo, if_pos cc]
      have step : ∀ (t : List Int) (b' : Int), coverGo kk c (m' + 1) b = t :: coverGo kk c m' b' → b < b' → ∀ {H3 : Hp} (p : Addr), Ex H2 H3 → H2 p = none → H3 p = some (.tup (t.map V.int)) → H3 F = some (.lst us) ∧ us.length < sizeLine ∧ ∃ m2, m2 < m' + 1 ∧ ∃ (b0 : Int) (us' : List V) (ts' : List (List Int)), [some (V.ref q), some (.int c), some (.int kk.1), some (.int kk.2), some (.ref F), some (.int b')] = [some (V.ref q), some (.int c), some (.int kk.1), some (.int kk.2), some (.ref F), some (.int b0)] ∧ Ex H (upd H3 F (.lst (us ++ [.ref p]))) ∧ upd H3 F (.lst (us ++ [.ref p])) F = some (.lst us') ∧ AllR (TkR K (upd H3 F (.lst (us ++ [.ref p])))) us' ts' ∧ ts' ++ coverGo kk c m2 b0 = coverB kk c ∧ (kk.2 - b0 + 1).toNat ≤ m2 ∧ ts'.length + m2 ≤ 1001 := fun t b' hg hb H3 p e3 np hp => by
        have npF : p ≠ F := (ne_of_none f2 np).symm
        have ej : Exj F H2 (upd H3 F (.lst (us ++ [.ref p]))) := (Exj.of e3).upd
        refine ⟨e3 _ _ f2, Nat.lt_of_le_of_lt (show us.length ≤ 1001 by omega) (by decide), m', by omega, b', us ++ [.ref p], ts ++ [t], rfl, Evl.Ex.mut (e2.trans e3) nF, upd_same, AllR.snoc (a2.mono fun v x r => r.exj ej f2) ⟨p, rfl, sqT (by rw [upd_ne npF]; exact hp)⟩, ?_, by omega, by rw [List.length_append]; show _ + 1 + _ ≤ _; omega⟩
        rw [List.append_assoc, ← g2, hg]
        rfl
      have one : ¬ ((kk.2 - kk.1) % 2 = 0 ∧ b = kk.1 + 2 * c) → coverGo kk c (m' + 1) b = [b, b + 1] :: coverGo kk c m' (b + 2) := fun h => by rw [gs, if_neg h]
      refine ⟨_, rfl, _, rfl, _, _, rfl, rfl, _, _, rfl, rfl, (show (0 : Int) < 2 by decide), rfl, _, rfl, ?_⟩
      rw [decInt]
      refine ifB (fun c2 => ?_) (fun c2 => ?_)
      · have c2 := of_decide_eq_true c2
        refine ⟨_, rfl, _, rfl, _, rfl, _, _, rfl, rfl, wide_mul (a := 20) (b := 20) (by decide) (by omega) (by decide) (by decide) (by decide), _, _, rfl, rfl, rfl, _, rfl, ?_⟩
        rw [decInt]
        refine ifB (fun c3 => ?_) (fun c3 => ?_)
        · have c3 : b = kk.1 + 2 * c := of_decide_eq_true c3
          refine ⟨_, rfl, .inl ⟨rfl, _, sqI f2⟩, _, rfl, (by show 1 ≤ sizeLine; decide), fun p H3 n3 e3 h3 => ?_⟩
          obtain ⟨g1, g3, g4⟩ := step [b] (b + 1) (by rw [gs, if_pos ⟨c2, c3⟩]) (by omega) p e3 n3 h3
          exact ⟨_, _, _, rfl, rfl, g1, g3, _, rfl, _, _, rfl, rfl, g4⟩
        · have c3 : ¬ b = kk.1 + 2 * c := of_decide_eq_false c3
          refine ⟨_, rfl, .inl ⟨rfl, _, sqI f2⟩, _, rfl, _, rfl, _, _, rfl, rfl, (by show 2 ≤ sizeLine; decide), fun p H3 n3 e3 h3 => ?_⟩
          obtain ⟨g1, g3, g4⟩ := step [b, b + 1] (b + 2) (one fun z => c3 z.2) (by omega) p e3 n3 h3
          exact ⟨_, _, _, rfl, rfl, g1, g3, _, rfl, _, _, rfl, rfl, g4⟩
      · have c2 := of_decide_eq_false c2
        refine ⟨_, rfl, .inl ⟨rfl, _, sqI f2⟩, _, rfl, _, rfl, _, _, rfl, rfl, (by show 2 ≤ sizeLine; decide), fun p H3 n3 e3 h3 => ?_⟩
        obtain ⟨g1, g3, g4⟩ := step [b, b + 1] (b + 2) (one fun z => c2 z.1) (by omega) p e3 n3 h3
        exact ⟨_, _, _, rfl, rfl, g1, g3, _, rfl, _, _, rfl, rfl, g4⟩
    · have cc : ¬ b ≤ kk.2 := of_decide_eq_false cc
      have : coverGo kk c m b = [] := by
        cases m with
        | zero => rfl
        | succ m => rw [coverGo, if_neg cc]
      rw [this, List.append_nil] at g2
      rw [g2] at a2
      exact ⟨_, rfl, k F H2 us nF e2 f2 a2⟩
theorem ok_cover_in (T : Txt K mg) : FnOk PR w K mg base CX0 2 T.a_cover_in T.d_cover_in ["there", "marks", "index"] (sp_cover_in K) := by
  refine T.f_cover_in.ok sc_cover_in (fun vs H Q E h => ?_) (fun cdv A outer s H vs Q E hr h => ?_)
  · obtain ⟨a, m, ns, ms, x, rfl, _⟩ := h
    rfl
  · obtain ⟨a, m, ns, ms, ix, rfl, ha, hm, nl, i0, k⟩ := h
    refine ⟨_, (pss_cons (ps_set (i := 3) sc_cover_in.nd rfl (by first | exact Or.inl rfl | exact Or.inr rfl) (pe_call (ok_blocks_of T) (hr.mono (by decide)) (by rfl) T.g_blocks_of T.f_blocks_of.kp (b_blocks_of T) .nil pass0 (pa_cons (pe_call (ok_borders_in T) (hr.mono (by decide)) (by rfl) T.g_borders_in T.f_borders_in.kp (b_borders_in T) .nil pass0 (pa_cons (pv 0) (pa_cons (pv 1) pa_nil))) pa_nil))) (pss_cons (ps_set (i := 4) sc_cover_in.nd rfl (by first | exact Or.inl rfl | exact Or.inr rfl) (pe_lstG pa_nil)) (pss_cons (ps_for PassesOwn.never rfl (pi_list (pe_revG (pe_call (ok_numbers_of_covers T) (hr.mono (by decide)) (by rfl) T.g_numbers_of_covers T.f_numbers_of_covers.kp (b_numbers_of_covers T) .nil pass0 (pa_cons (pv 3) pa_nil)))) (pg_name (i := 5) sc_cover_in.nd rfl (by first | exact Or.inl rfl | exact Or.inr rfl)) (pss_cons (ps_expr (pe_bm PySem.F.plainAttrs_list PySem.F.slot_list_append PySem.F.type_list_append mt_append (pv 4) (pa_cons (pe_op op_mod (pv 2) (pv 5)) pa_nil))) (pss_one (ps_set (i := 2) sc_cover_in.nd rfl (by first | exact Or.inl rfl | exact Or.inr rfl) (pe_op op_fdivW (pv 2) (pv 5)))))) (pss_cons (ps_set (i := 6) sc_cover_in.nd rfl (by first | exact Or.inl rfl | exact Or.inr rfl) (pe_lstG pa_nil)) (pss_cons (ps_for PassesOwn.never rfl (pi_zip (by rfl) T.z_zip (pa_cons (pv 3) (pa_cons (pe_revG (pv 4)) pa_nil))) (pg_tup rfl (pgs_cons (pg_name (i := 7) sc_cover_in.nd rfl (by first | exact Or.inl rfl | exact Or.inr rfl)) (pgs_cons (pg_name (i := 8) sc_cover_in.nd rfl (by first | exact Or.inl rfl | exact Or.inr rfl)) pgs_nil))) (pss_one (ps_expr (pe_bm PySem.F.plainAttrs_list PySem.F.slot_list_extend PySem.F.type_list_extend mt_extend (pv 6) (pa_cons (pe_call (ok_block_cover T) (hr.mono (by decide)) (by rfl) T.g_block_cover T.f_block_cover.kp (b_block_cover T) .nil pass0 (pa_cons (pv 7) (pa_cons (pv 8) pa_nil))) pa_nil))))) (pss_one (ps_ret (pv 6)))))))), ?_⟩
    have bl := borders_len ns ms
    have kl := blocks_len (bordersL ns ms)
    obtain ⟨bs, hbs⟩ : ∃ bs, bs = blocksL (bordersL ns ms) := ⟨_, rfl⟩
    refine ⟨_, rfl, _, rfl, a, m, ns, ms, rfl, ha, hm, by omega, fun p1 H1 n1 e1 h1 => ?_⟩
    refine ⟨p1, bordersL ns ms, rfl, sqI h1, by omega, fun p2 H2 us n2 e2 h2 a2 => ?_⟩
    rw [← hbs] at a2 kl
    have bin : ∀ kk ∈ bs, kk.1 ≤ kk.2 ∧ kk.2 - kk.1 ≤ 500 := fun kk hk => by
      rw [hbs] at hk
      have h1 := blocks_le _ kk hk
      have h4 := blocks_in hk
      omega
    have ul := a2.1
    refine ⟨(by show 0 ≤ sizeLine; decide), fun C H3 nC e3 hC => ?_⟩
    refine st_eq (σ' := [some (.ref a), some (.ref m), some (.int ix), some (.ref p2), none, none, none, none, none]) (P := fun σ => gName 4 (V.ref C) σ H3 _) rfl ?_
    refine ⟨_, rfl, p2, us, bs, rfl, sqI (e3 _ _ h2), a2.mono fun v x r => r.ex e3, by omega, fun p4 H4 n4 e4 h4 => ?_⟩
    refine ⟨_, _, rfl, sqI h4, fun p5 H5 n5 e5 h5 => ?_⟩
    rw [← List.map_reverse] at h5
    obtain ⟨nr, hnr⟩ : ∃ nr, nr = (bs.map numB).reverse := ⟨_, rfl⟩
    rw [← hnr] at h5
    have nrl : nr.length = bs.length := by rw [hnr]; simp
    have npos : ∀ x ∈ nr, 1 ≤ x ∧ x ≤ 502 := fun x hx => by
      rw [hnr] at hx
      obtain ⟨kk, hk, rfl⟩ := List.mem_map.mp (List.mem_reverse.mp hx)
      have h1 := bin kk hk
      have h2 := numB_pos h1.1
      have h3 := numB_le h1.1
      omega
    have e35 := e4.trans e5
    have n5C : p5 ≠ C := (ne_of_none (e4 _ _ hC) n5).symm
    refine ⟨p5, rfl, ⟨_, sqI h5⟩, for_it (walk_list (K := K) (a := p5) (xs := nr.map V.int)) (fun i σ H' => ∃ (v5 : Option V), σ = [some (.ref a), some (.ref m), some (.int (restG (nr.take i) ix)), some (.ref p2), some (.ref C), v5, none, none, none] ∧ Exj C H5 H' ∧ H' C = some (.lst ((chG (nr.take i) ix).map V.int))) ⟨_, rfl, Exj.refl _ _, e35 _ _ hC⟩ (fun i σ H' _ ⟨_, _, e, _⟩ => sqI (e _ _ n5C h5)) ?_ ?_⟩
    · rintro i v σ HX H6 hi ⟨v5, rfl, e6, c6⟩ ⟨rfl, hv⟩
      obtain ⟨x, hx, rfl⟩ := mapI_get hv
      obtain ⟨x1, x2⟩ := npos x (List.mem_of_getElem? hx)
      obtain ⟨t1, t2⟩ := chG_take nr ix i x hx
      refine ⟨_, rfl, .inl ⟨rfl, _, sqI c6⟩, _, rfl, _, rfl, _, _, rfl, rfl, (show 0 < x by omega), _, _, _, rfl, rfl, c6, ?_, ?_⟩
      · rw [List.length_map, chG_len, List.length_take]
        exact Nat.lt_of_le_of_lt (show _ ≤ 1000 by omega) (by decide)
      refine ⟨_, rfl, _, rfl, _, _, rfl, rfl, wide_div (b := 20) (by omega) (by omega) (by decide) (by decide), ?_⟩
      refine ⟨some (.int x), ?_, e6.upd, ?_⟩
      · rw [t2]
        rfl
      · rw [upd_same, t1, List.map_append]
        rfl
    · rintro σ H6 ⟨v5, rfl, e6, c6⟩
      rw [List.length_map, List.take_length] at c6
      have n2C : p2 ≠ C := ne_of_none h2 nC
      have h26 := e6 _ _ n2C (e35 _ _ (e3 _ _ h2))
      have a6 : AllR (BkR K H6) us bs := a2.mono fun v x r => (r.ex (e3.trans e35)).exj e6 (e35 _ _ hC)
      obtain ⟨rc, hrc⟩ : ∃ rc, rc = (chG nr ix).reverse := ⟨_, rfl⟩
      have rcl : rc.length = bs.length := by rw [hrc, List.length_reverse, chG_len, nrl]
      have rcb : ∀ c ∈ rc, 0 ≤ c ∧ c ≤ 502 := fun c hc => by
        rw [hrc] at hc
        exact chG_bound nr ix npos c (List.mem_reverse.mp hc)
      refine ⟨(by show 0 ≤ sizeLine; decide), fun F H7 nF e7 hF => ?_⟩
      refine ⟨_, rfl, _, rfl, _, _, rfl, sqI (e7 _ _ c6), fun p8 H8 n8 e8 h8 => ?_⟩
      rw [← List.map_reverse, ← hrc] at h8
      have n2F : p2 ≠ F := ne_of_none h26 nF
      have n8F : p8 ≠ F := (ne_of_none hF n8).symm
      have e68 := e7.trans e8
      have h28 := e68 _ _ h26
      have hF8 := e8 _ _ hF
      refine ⟨p2, p8, us, _, rfl, sqI h28, sqI h8, for_it (walk_zip (K := K) (a := p2) (b := p8) (xs := us) (ys := rc.map V.int) rfl) (fun i σ H' => ∃ (v7 v8 : Option V) (ws : List V), σ = [some (.ref a), some (.ref m), some (.int (restG (nr.take (nr.map V.int).length) ix)), some (.ref p2), some (.ref C), v5, some (.ref F), v7, v8] ∧ Exj F H8 H' ∧ H' F = some (.lst ws) ∧ AllR (TkR K H') ws (((bs.zip rc).take i).flatMap fun kc => coverB kc.1 kc.2) ∧ ws.length ≤ 501 * i) ⟨_, _, [], rfl, Exj.refl _ _, hF8, AllR.nil, by show 0 ≤ _; omega⟩ (fun i H' _ _ ⟨_, _, _, _, e, _⟩ => ⟨sqI (e _ _ n2F h28), sqI (e _ _ n8F h8)⟩) ?_ ?_⟩
      · rintro i v σ HX HY hi ⟨v7, v8, ws, rfl, eX, fX, aX, lX⟩ ⟨q, x, y, rfl, nq, rfl, hx, hy⟩
        obtain ⟨kk, hkk, qk, rfl, hqk⟩ := AllR.get a6 hx
        obtain ⟨c, hc, rfl⟩ := mapI_get hy
        have hz : (bs.zip rc)[i]? = some (kk, c) := List.getElem?_zip_eq_some.mpr ⟨hkk, hc⟩
        obtain ⟨k1, k2⟩ := bin kk (List.mem_of_getElem? hkk)
        obtain ⟨c1, c2⟩ := rcb c (List.mem_of_getElem? hc)
        have eY : Ex HX (upd HX q (.tup [.ref qk, .int c])) := Evl.Ex.new nq
        have hY : upd HX q (.tup [.ref qk, .int c]) q = some (.tup [.ref qk, .int c]) := upd_same
        generalize upd HX q (.tup [V.ref qk, .int c]) = HY at eY hY ⊢
        have hq' : SqT K HY qk [.int kk.1, .int kk.2] := Evl.ex_t eY (sqT_exj eX hF8 (Evl.ex_t e68 hqk))
        have fY := eY _ _ fX
        have ib : i < us.length := Nat.lt_of_lt_of_le hi (Nat.min_le_left _ _)
        refine ⟨_, _, rfl, sqT hY, rfl, _, _, rfl, _, _, rfl, rfl, ?_⟩
        refine ⟨_, rfl, .inl ⟨rfl, _, sqI fY⟩, _, rfl, _, rfl, qk, kk, c, rfl, hq', by omega, by omega, by omega, fun p9 H9 us9 n9 e9 h9 a9 => ?_⟩
        have f9 := e9 _ _ fY
        have l9 : us9.length ≤ 501 := by rw [a9.1]; exact coverB_len k2
        refine ⟨_, _, _, _, rfl, rfl, f9, h9, Nat.le_trans (show ws.length + us9.length ≤ 501 * 500 by omega) (by decide), ?_⟩
        have ej : Exj F HX (upd H9 F (.lst (ws ++ us9))) := (Exj.of (eY.trans e9)).upd
        refine ⟨_, _, ws ++ us9, rfl, eX.trans ej, upd_same, ?_, by rw [List.length_append]; omega⟩
        rw [take_snoc hz, List.flatMap_append]
        have a9' : AllR (TkR K (upd H9 F (.lst (ws ++ us9)))) us9 ([(kk, c)].flatMap fun kc => coverB kc.1 kc.2) := by
          rw [List.flatMap_cons, List.flatMap_nil, List.append_nil]
          exact a9.mono fun v x r => r.exj ((Exj.refl F H9).upd) f9
        exact AllR.append (aX.mono fun v x r => r.exj ej fX) a9'
      · rintro σ HX ⟨v7, v8, ws, rfl, eX, fX, aX, lX⟩
        have zl : (bs.zip rc).length = bs.length := by rw [List.length_zip]; omega
        have tk : (bs.zip rc).take (min us.length (rc.map V.int).length) = bs.zip rc := by
          refine List.take_of_length_le ?_
          rw [List.length_map]
          omega
        rw [tk] at aX
        have cv : coverL (blocksL (bordersL ns ms)) ix = (bs.zip rc).flatMap fun kc => coverB kc.1 kc.2 := by
          rw [hrc, hnr, hbs]
          rfl
        refine ⟨_, rfl, k F HX ws ?_ ?_ fX (by rw [cv]; exact aX)⟩
        · cases z : H F with
          | none => rfl
          | some o =>
            have b2 := (e1.trans e2) _ _ z
            have nb := ne_of_none b2 nC
            have := e6 _ _ nb (e35 _ _ (e3 _ _ b2))
            rw [nF] at this
            cases this
        · intro b o hb
          have b2 := (e1.trans e2) _ _ hb
          have nbC : b ≠ C := ne_of_none b2 nC
          have b6 := e6 _ _ nbC (e35 _ _ (e3 _ _ b2))
          exact eX _ _ (ne_of_none b6 nF) (e68 _ _ b6)
end
end K76
set_option Elab.async false
set_option pp.maxSteps 1200
set_option linter.all false
set_option maxRecDepth 100000
set_option maxHeartbeats 4000000
namespace K76
open PySem L2 My
theorem IsCl.ex {K : PySem.W.Frag} {H H' : Hp} {v : V} {t : Cl} (h : IsCl K H v t) (e : Ex H H') : IsCl K H' v t := let ⟨q, a, b⟩ := h; ⟨q, a, Evl.ex_t e b⟩
theorem IsCl.exj {K : PySem.W.Frag} {H H' : Hp} {j : Addr} {ys : List V} {v : V} {t : Cl} (h : IsCl K H v t) (e : Exj j H H') (hj : H j = some (.lst ys)) : IsCl K H' v t := let ⟨q, a, b⟩ := h; ⟨q, a, sqT_exj e hj b⟩
def sp_clicks_in (K : PySem.W.Frag) : Sp := fun vs H Q _ => ∃ (a : Addr) (us : List V) (cv : List (List Int)), vs = [.ref a] ∧ SqL K H a us ∧ AllR (TkR K H) us cv ∧ cv.length ≤ 300000 ∧ (singlesL cv).length % 2 = 0 ∧ ∀ p H' us, H p = none → Ex H H' → H' p = some (.lst us) → AllR (IsCl K H') us (clicksL cv) → Q (.ref p) H'
section
variable {w : World} {K : PySem.W.Frag} {mg : Str → Option Value} {base : Heap}
theorem ok_clicks_in (T : Txt K mg) : FnOk PR w K mg base CX0 1 T.a_clicks_in T.d_clicks_in ["cover"] (sp_clicks_in K) := by
  refine T.f_clicks_in.ok sc_clicks_in (fun vs H Q E h => ?_) (fun cdv A outer s H vs Q E hr h => ?_)
  · obtain ⟨a, us, cv, rfl, _⟩ := h
    rfl
  · obtain ⟨a, us, cv, rfl, ha, hk, hl, ev, k⟩ := h
    refine ⟨_, (pss_cons (ps_setLc (i := 1) (own := [("token", 4)]) (g := gName 4) (by rfl) sc_clicks_in.nd rfl rfl (sw_true rfl rfl rfl (by decide +kernel)) (pi_list (pv 0)) (blkOk_by (own := [("token", 4)]) (N := ["cover", "singles", "found", "place", "token"]) (sc := (defScope s_clicks_in)) (by decide +kernel)) (fun _ _ _ _ _ => (pg_name (i := 4) sc_clicks_in.nd rfl (by first | exact Or.inl rfl | exact Or.inr rfl))) (fun _ _ _ _ _ => (pts_one (pt_cmpR op_eq (pe_callB (crK (r := rLenSq) (K := K) (by rfl) call_len_seq) (by rfl) T.z_len PySem.boot_len (pa_cons (pv 4) pa_nil)) pe_int (nomark _)))) (fun _ _ _ _ _ => (pe_ix (ixK (r := rIxT) (K := K) (by rfl) ix_tup) (pv 4) pe_int (fun _ _ => rfl)))) (pss_cons (ps_set (i := 2) sc_clicks_in.nd rfl (by first | exact Or.inl rfl | exact Or.inr rfl) (pe_lstG pa_nil)) (pss_cons (ps_for PassesOwn.never rfl (pi_range3 (by rfl) T.z_range (pa_cons pe_int (pa_cons (pe_callB call_len_seq (by rfl) T.z_len PySem.boot_len (pa_cons (pv 1) pa_nil)) (pa_cons pe_int pa_nil)))) (pg_name (i := 3) sc_clicks_in.nd rfl (by first | exact Or.inl rfl | exact Or.inr rfl)) (pss_cons (ps_expr (pe_bm PySem.F.plainAttrs_list PySem.F.slot_list_append PySem.F.type_list_append mt_append (pv 2) (pa_cons (pe_tupG (pa_cons (pe_glob (v := .str "click") rfl T.g_CLICK ⟨_, rfl⟩) (pa_cons (pe_ix ix_list (pv 1) (pv 3) (fun _ _ => rfl)) pa_nil))) pa_nil))) (pss_one (ps_expr (pe_bm PySem.F.plainAttrs_list PySem.F.slot_list_append PySem.F.type_list_append mt_append (pv 2) (pa_cons (pe_tupG (pa_cons (pe_glob (v := .str "range") rfl T.g_RANGE ⟨_, rfl⟩) (pa_cons (pe_op op_sub (pe_ix ix_list (pv 1) (pe_op op_add (pv 3) pe_int) (fun _ _ => rfl)) pe_int) pa_nil))) pa_nil)))))) (pss_cons (ps_expr (pe_bm PySem.F.plainAttrs_list PySem.F.slot_list_extend PySem.F.type_list_extend mt_extend (pv 2) (pa_cons (pe_lc (own := [("token", 4)]) (g := gName 4) (by rfl) sc_clicks_in.nd (pi_list (pv 0)) (blkOk_by (own := [("token", 4)]) (N := ["cover", "singles", "found", "place", "token"]) (sc := (defScope s_clicks_in)) (by decide +kernel)) (fun _ _ _ _ _ => (pg_name (i := 4) sc_clicks_in.nd rfl (by first | exact Or.inl rfl | exact Or.inr rfl))) (fun _ _ _ _ _ => (pts_one (pt_cmpR op_eq (pe_callB (crK (r := rLenSq) (K := K) (by rfl) call_len_seq) (by rfl) T.z_len PySem.boot_len (pa_cons (pv 4) pa_nil)) pe_int (nomark _)))) (fun _ _ _ _ _ => (pe_tupG (pa_cons (pe_glob (v := .str "click") rfl T.g_CLICK ⟨_, rfl⟩) (pa_cons (pe_ix (ixK (r := rIxT) (K := K) (by rfl) ix_tup) (pv 4) pe_int (fun _ _ => rfl)) pa_nil))))) pa_nil))) (pss_one (ps_ret (pv 2))))))), ?_⟩
    have ul := hk.1
    have lens : ∀ t : List Int, decide (V.int (((t.map V.int).length : Nat) : Int) = V.int 1) = decide (t.length = 1) ∧ decide (V.int (((t.map V.int).length : Nat) : Int) = V.int 2) = decide (t.length = 2) := fun t => by
      rw [decInt, decInt, List.length_map]
      exact ⟨decide_eq_decide.mpr (by omega), decide_eq_decide.mpr (by omega)⟩
    refine ⟨_, rfl, a, rfl, ⟨_, ha⟩, fun S nS => lc_it (walk_list (K := K) (a := a) (xs := us)) (fun i H' => Ex H H' ∧ H' S = some (.lst ((singlesL (cv.take i)).map V.int))) ⟨Evl.Ex.new nS, upd_same⟩ (fun i H' _ z => Evl.ex_l z.1 ha) ?_ ?_⟩
    · rintro i v H1 H2 hi ⟨e2, s2⟩ ⟨rfl, hv⟩
      obtain ⟨t, ht, q, rfl, hq⟩ := AllR.get hk hv
      have hq2 := Evl.ex_t e2 hq
      refine ⟨rfl, ?_⟩
      show _
      refine ⟨_, rfl, _, _, rfl, .inr hq2, rfl, _, rfl, ?_⟩
      rw [(lens t).1]
      have tk : singlesL (cv.take (i + 1)) = singlesL (cv.take i) ++ (if t.length = 1 then [t.getD 0 0] else []) := by
        unfold singlesL
        rw [take_snoc ht, List.filter_append, List.map_append]
        congr 1
        rw [List.filter_cons]
        by_cases z : t.length = 1
        · rw [if_pos (decide_eq_true z), if_pos z]; rfl
        · rw [if_neg (by simp [z]), if_neg z]; rfl
      have a0 : ∀ n, t.length = n + 1 → atI (t.map V.int) 0 = some (.int (t.getD 0 0)) := fun n hn => by
        cases t with
        | nil => cases hn
        | cons x r => exact at0
      refine ifB (fun c => ?_) (fun c => ?_)
      · have c := of_decide_eq_true c
        rw [if_pos c] at tk
        refine ⟨_, rfl, _, _, _, _, rfl, rfl, hq2, a0 0 c, _, s2, ?_, Evl.Ex.mut e2 nS, ?_⟩
        · rw [List.length_map]
          have := singles_len (cv.take i)
          rw [List.length_take] at this
          exact Nat.lt_of_le_of_lt (show _ ≤ 300000 by omega) (by decide)
        · rw [upd_same, tk, List.map_append]
          rfl
      · have c := of_decide_eq_false c
        rw [if_neg c, List.append_nil] at tk
        exact ⟨e2, by rw [tk]; exact s2⟩
    rintro H1 ⟨e1, s1⟩
    rw [ul, List.take_length] at s1
    obtain ⟨ss, hss⟩ : ∃ ss, ss = singlesL cv := ⟨_, rfl⟩
    rw [← hss] at s1 ev
    have ssl : ss.length ≤ 300000 := by rw [hss]; exact Nat.le_trans (singles_len cv) hl
    refine ⟨(by show 0 ≤ sizeLine; decide), fun F H2 nF e2 hF => ?_⟩
    have s2 := e2 _ _ s1
    have nSF : S ≠ F := ne_of_none s1 nF
    have nFH : H F = none := none_of e1 nF
    have e02 := e1.trans e2
    refine ⟨_, rfl, _, _, rfl, .inl (sqI s2), _, _, _, _, rfl, (by rw [List.length_map]; exact rg_two (by omega) ev), ?_⟩
    refine for_rangeC (lo := 0) (c := 2) (n := ss.length / 2) (fun i σ H' => ∃ (v3 v4 : Option V) (ws : List V), σ = [some (.ref a), some (.ref S), some (.ref F), v3, v4] ∧ Ex H H' ∧ H' S = some (.lst (ss.map V.int)) ∧ H' F = some (.lst ws) ∧ AllR (IsCl K H') ws (pairsL (ss.take (2 * i)))) ⟨_, _, [], rfl, e02, s2, hF, AllR.nil⟩ ?_ ?_
    · rintro i σ H3 hi ⟨v3, v4, ws, rfl, e3, s3, f3, a3⟩
      have il : 2 * i + 1 < ss.length := by omega
      have pt := pairs_take il
      have wl : ws.length ≤ ss.length := by
        have := pairs_len (ss.take (2 * i))
        rw [List.length_take] at this
        have := a3.1
        omega
      have c1 : atI (ss.map V.int) ((0 : Int) + (i : Nat) * 2) = some (.int (ss.getD (2 * i) 0)) := by
        refine at_of (j := 2 * i) (by omega) ?_
        rw [List.getElem?_map, List.getD_eq_getElem?_getD, List.getElem?_eq_getElem (by omega)]
        rfl
      have c2 : atI (ss.map V.int) ((0 : Int) + (i : Nat) * 2 + 1) = some (.int (ss.getD (2 * i + 1) 0)) := by
        refine at_of (j := 2 * i + 1) (by omega) ?_
        rw [List.getElem?_map, List.getD_eq_getElem?_getD, List.getElem?_eq_getElem il]
        rfl
      refine ⟨_, rfl, .inl ⟨rfl, _, sqI f3⟩, _, rfl, _, rfl, _, _, _, _, rfl, rfl, sqI s3, c1, (by show 2 ≤ sizeLine; decide), fun p4 H4 n4 e4 h4 => ?_⟩
      have f4 := e4 _ _ f3
      have n4F : p4 ≠ F := (ne_of_none f3 n4).symm
      refine ⟨_, _, _, rfl, rfl, f4, Nat.lt_of_le_of_lt (show ws.length ≤ 300000 by omega) (by decide), ?_⟩
      have e5 : Ex H (upd H4 F (.lst (ws ++ [.ref p4]))) := Evl.Ex.mut (e3.trans e4) nFH
      have j5 : Exj F H3 (upd H4 F (.lst (ws ++ [.ref p4]))) := (Exj.of e4).upd
      have f5 : upd H4 F (.lst (ws ++ [.ref p4])) F = some (.lst (ws ++ [.ref p4])) := upd_same
      have h5 : upd H4 F (.lst (ws ++ [.ref p4])) p4 = some (.tup [.str "click", .int (ss.getD (2 * i) 0)]) := by rw [upd_ne n4F]; exact h4
      generalize upd H4 F (.lst (ws ++ [V.ref p4])) = H5 at e5 j5 f5 h5 ⊢
      have s5 := j5 _ _ nSF s3
      have a5 : AllR (IsCl K H5) (ws ++ [.ref p4]) (pairsL (ss.take (2 * i)) ++ [(("click" : Str), ss.getD (2 * i) 0)]) := AllR.snoc (a3.mono fun v x r => r.exj j5 f3) ⟨p4, rfl, sqT h5⟩
      refine ⟨_, rfl, .inl ⟨rfl, _, sqI f5⟩, _, rfl, _, rfl, _, _, rfl, rfl, _, _, _, _, rfl, rfl, sqI s5, c2, _, _, rfl, rfl, (by show 2 ≤ sizeLine; decide), fun p6 H6 n6 e6 h6 => ?_⟩
      have f6 := e6 _ _ f5
      have n6F : p6 ≠ F := (ne_of_none f5 n6).symm
      refine ⟨_, _, _, rfl, rfl, f6, Nat.lt_of_le_of_lt (show (ws ++ [V.ref p4]).length ≤ 300001 by rw [List.length_append]; show _ + 1 ≤ _; omega) (by decide), ?_⟩
      have j7 : Exj F H5 (upd H6 F (.lst (ws ++ [.ref p4] ++ [.ref p6]))) := (Exj.of e6).upd
      refine ⟨_, _, ws ++ [.ref p4] ++ [.ref p6], rfl, Evl.Ex.mut (e5.trans e6) nFH, j7 _ _ nSF s5, upd_same, ?_⟩
      rw [pt, show pairsL (ss.take (2 * i)) ++ [(("click" : Str), ss.getD (2 * i) 0), (("range" : Str), ss.getD (2 * i + 1) 0 - 1)] = pairsL (ss.take (2 * i)) ++ [(("click" : Str), ss.getD (2 * i) 0)] ++ [(("range" : Str), ss.getD (2 * i + 1) 0 - 1)] by rw [List.append_assoc]; rfl]
      exact AllR.snoc (a5.mono fun v x r => r.exj j7 f5) ⟨p6, rfl, sqT (by rw [upd_ne n6F]; exact h6)⟩
    · rintro σ H3 ⟨v3, v4, ws, rfl, e3, s3, f3, a3⟩
      have tl : ss.take (2 * (ss.length / 2)) = ss := List.take_of_length_le (by omega)
      rw [tl] at a3
      have wl : ws.length ≤ 300000 := by
        have := pairs_len ss
        have := a3.1
        omega
      refine ⟨_, rfl, .inl ⟨rfl, _, sqI f3⟩, _, rfl, a, rfl, ⟨_, Evl.ex_l e3 ha⟩, fun D nD => lc_it (walk_list (K := K) (a := a) (xs := us)) (fun i H' => ∃ zs, Ex H3 H' ∧ H' D = some (.lst zs) ∧ AllR (IsCl K H') zs (((cv.take i).filter fun t : List Int => decide (t.length = 2)).map fun t : List Int => (("click" : Str), t.getD 0 0))) ⟨[], Evl.Ex.new nD, upd_same, AllR.nil⟩ (fun i H' _ ⟨_, e, _⟩ => Evl.ex_l (e3.trans e) ha) ?_ ?_⟩
      · rintro i v HX H4 hi ⟨zs, e4, d4, a4⟩ ⟨rfl, hv⟩
        obtain ⟨t, ht, q, rfl, hq⟩ := AllR.get hk hv
        have hq4 := Evl.ex_t (e3.trans e4) hq
        refine ⟨rfl, ?_⟩
        show _
        refine ⟨_, rfl, _, _, rfl, .inr hq4, rfl, _, rfl, ?_⟩
        rw [(lens t).2]
        have a0 : ∀ n, t.length = n + 1 → atI (t.map V.int) 0 = some (.int (t.getD 0 0)) := fun n hn => by
          cases t with
          | nil => cases hn
          | cons x r => exact at0
        have zl : zs.length ≤ 300000 := by
          have := a4.1
          rw [List.length_map] at this
          have h2 := List.length_filter_le (fun t : List Int => decide (t.length = 2)) (cv.take i)
          rw [List.length_take] at h2
          omega
        have tk : ((cv.take (i + 1)).filter fun t : List Int => decide (t.length = 2)).map (fun t : List Int => (("click" : Str), t.getD 0 0)) = ((cv.take i).filter fun t : List Int => decide (t.length = 2)).map (fun t : List Int => (("click" : Str), t.getD 0 0)) ++ (if t.length = 2 then [(("click" : Str), t.getD 0 0)] else []) := by
          rw [take_snoc ht, List.filter_append, List.map_append]
          congr 1
          rw [List.filter_cons]
          by_cases z : t.length = 2
          · rw [if_pos (decide_eq_true z), if_pos z]; rfl
          · rw [if_neg (by simp [z]), if_neg z]; rfl
        refine ifB (fun c => ?_) (fun c => ?_)
        · have c := of_decide_eq_true c
          rw [if_pos c] at tk
          refine ⟨_, rfl, _, _, _, _, rfl, rfl, hq4, a0 1 c, (by show 2 ≤ sizeLine; decide), fun p5 H5 n5 e5 h5 => ?_⟩
          have d5 := e5 _ _ d4
          have n5D : p5 ≠ D := (ne_of_none d4 n5).symm
          have j6 : Exj D H4 (upd H5 D (.lst (zs ++ [.ref p5]))) := (Exj.of e5).upd
          refine ⟨zs, d5, Nat.lt_of_le_of_lt zl (by decide), zs ++ [.ref p5], Evl.Ex.mut (e4.trans e5) nD, upd_same, ?_⟩
          rw [tk]
          exact AllR.snoc (a4.mono fun v x r => r.exj j6 d4) ⟨p5, rfl, sqT (by rw [upd_ne n5D]; exact h5)⟩
        · have c := of_decide_eq_false c
          rw [if_neg c, List.append_nil] at tk
          exact ⟨zs, e4, d4, by rw [tk]; exact a4⟩
      rintro H4 ⟨zs, e4, d4, a4⟩
      rw [ul, List.take_length] at a4
      have f4 := e4 _ _ f3
      have zl : zs.length ≤ 300000 := by
        have := a4.1
        rw [List.length_map] at this
        have h2 := List.length_filter_le (fun t : List Int => decide (t.length = 2)) cv
        omega
      refine ⟨_, _, _, _, rfl, rfl, f4, d4, Nat.le_trans (show ws.length + zs.length ≤ 600000 by omega) (by decide), ?_⟩
      refine ⟨_, rfl, k F _ (ws ++ zs) nFH (Evl.Ex.mut (e3.trans e4) nFH) upd_same ?_⟩
      have j5 : Exj F H4 (upd H4 F (.lst (ws ++ zs))) := (Exj.refl F H4).upd
      unfold clicksL
      rw [← hss]
      exact AllR.append (a3.mono fun v x r => (r.ex e4).exj j5 f4) (a4.mono fun v x r => r.exj j5 f4)
end
end K76
set_option Elab.async false
set_option pp.maxSteps 1200
set_option linter.all false
set_option maxRecDepth 100000
set_option maxHeartbeats 4000000
namespace K76
open PySem L2 My
/-! an even number of borders, of single tokens -/
def chgs (f : Nat → Bool) (n : Nat) : List Nat := (List.range n).filter fun p => !decide (f p = f (p + 1))
theorem chgs_par (f : Nat → Bool) : ∀ n, (chgs f n).length % 2 = if f 0 = f n then 0 else 1
  | 0 => by
    rw [if_pos rfl]
    rfl
  | n + 1 => by
    have ih := chgs_par f n
    unfold chgs at ih ⊢
    rw [List.range_succ, List.filter_append, List.length_append]
    cases h1 : f 0 <;> cases h2 : f n <;> cases h3 : f (n + 1) <;> simp [h1, h2, h3] at ih ⊢ <;> omega
theorem borders_chgs (ns ms : List Int) : bordersL ns ms = (chgs (fun p => (flagL ns ms).getD p false) (ns.length + 1)).map fun i => ((i : Nat) : Int) := by
  unfold bordersL chgs
  rw [List.filter_map]
  have : (fun p : Int => !decide ((flagL ns ms).getD p.toNat false = (flagL ns ms).getD (p.toNat + 1) false)) ∘ (fun i : Nat => (0 : Int) + (i : Int)) = fun p : Nat => !decide ((flagL ns ms).getD p false = (flagL ns ms).getD (p + 1) false) := by
    funext i
    show (!decide ((flagL ns ms).getD ((0 : Int) + (i : Int)).toNat false = _)) = _
    rw [show ((0 : Int) + (i : Int)).toNat = i by omega]
  rw [this]
  congr 1
  funext i
  omega
theorem flag_end (ns ms : List Int) : (flagL ns ms).getD 0 false = false ∧ (flagL ns ms).getD (ns.length + 1) false = false := by
  refine ⟨rfl, ?_⟩
  unfold flagL
  rw [List.getD_eq_getElem?_getD, List.getElem?_append_right (by simp)]
  simp
theorem borders_even (ns ms : List Int) : (bordersL ns ms).length % 2 = 0 := by
  rw [borders_chgs, List.length_map, chgs_par, (flag_end ns ms).1, (flag_end ns ms).2]
  rfl
def sizeB (k : Bk) : Int := k.2 - k.1 + 1
theorem addB_size (bs : List Bk) (b : Int) : ((addB bs b).map sizeB).sum = (bs.map sizeB).sum + 1 := by
  unfold addB
  split
  · rw [List.map_append, List.sum_append]
    show _ + ((b - b + 1) + 0) = _
    omega
  · rename_i l hl
    split
    · rename_i c
      have hb : bs = bs.dropLast ++ [l] := by
        have hne : bs ≠ [] := fun z => by rw [z] at hl; cases hl
        have e := List.dropLast_concat_getLast hne
        rw [List.getLast?_eq_some_getLast hne] at hl
        have hl := Option.some.inj hl
        rw [hl] at e
        exact e.symm
      have e2 : (bs.map sizeB).sum = (bs.dropLast.map sizeB).sum + sizeB l := by
        have := congrArg (fun x : List Bk => (x.map sizeB).sum) hb
        simp only [List.map_append, List.sum_append] at this
        rw [this]
        show _ + (sizeB l + 0) = _
        omega
      rw [List.map_append, List.sum_append, e2]
      show _ + ((b - l.1 + 1) + 0) = _ + (l.2 - l.1 + 1) + 1
      omega
    · rw [List.map_append, List.sum_append]
      show _ + ((b - b + 1) + 0) = _
      omega
theorem blocks_size (ps : List Int) : ((blocksL ps).map sizeB).sum = ps.length := by
  have go : ∀ (ps : List Int) (bs : List Bk), ((ps.foldl addB bs).map sizeB).sum = (bs.map sizeB).sum + ps.length := fun ps => by
    induction ps with
    | nil => intro bs; simp
    | cons p ps ih =>
      intro bs
      rw [List.foldl_cons, ih, addB_size, List.length_cons]
      omega
  have := go ps []
  simpa [blocksL] using this
theorem singles_app (a b : List (List Int)) : singlesL (a ++ b) = singlesL a ++ singlesL b := by
  unfold singlesL
  rw [List.filter_append, List.map_append]
theorem singles_one (b : Int) (l : List (List Int)) : singlesL ([b] :: l) = b :: singlesL l := rfl
theorem singles_two (b c : Int) (l : List (List Int)) : singlesL ([b, c] :: l) = singlesL l := rfl
theorem go_none (k : Bk) (c : Int) : ∀ (n : Nat) (b : Int), ((k.2 - k.1) % 2 ≠ 0 ∨ b > k.1 + 2 * c) → singlesL (coverGo k c n b) = []
  | 0, _, _ => rfl
  | n + 1, b, h => by
    unfold coverGo
    split
    · rw [if_neg (fun z => by rcases h with h | h; exact h z.1; omega), singles_two]
      exact go_none k c n (b + 2) (h.imp id fun z => by omega)
    · rfl
theorem go_one (k : Bk) (c : Int) (h : (k.2 - k.1) % 2 = 0) (hc : k.1 + 2 * c ≤ k.2) : ∀ (n : Nat) (b : Int), b ≤ k.1 + 2 * c → (k.1 + 2 * c - b) % 2 = 0 → (k.2 - b + 1).toNat ≤ n → singlesL (coverGo k c n b) = [k.1 + 2 * c]
  | 0, b, h1, _, h3 => by omega
  | n + 1, b, h1, h2, h3 => by
    unfold coverGo
    rw [if_pos (by omega)]
    by_cases e : b = k.1 + 2 * c
    · rw [if_pos ⟨h, e⟩, singles_one, go_none k c n (b + 1) (.inr (by omega)), e]
    · rw [if_neg (fun z => e z.2), singles_two]
      exact go_one k c h hc n (b + 2) (by omega) (by omega) (by omega)
theorem cover_singles {k : Bk} {c : Int} (hk : k.1 ≤ k.2) (h0 : 0 ≤ c) (h1 : c < numB k) : singlesL (coverB k c) = if (k.2 - k.1) % 2 = 0 then [k.1 + 2 * c] else [] := by
  unfold coverB
  by_cases e : (k.2 - k.1) % 2 = 0
  · rw [if_pos e]
    unfold numB at h1
    rw [if_pos (by omega)] at h1
    exact go_one k c e (by omega) _ _ (by omega) (by omega) (Nat.le_refl _)
  · rw [if_neg e]
    exact go_none k c _ _ (.inl e)
theorem chG_get : ∀ (l : List Int) (i : Int) (j : Nat) (c : Int), (chG l i)[j]? = some c → ∃ n x, l[j]? = some n ∧ c = x % n
  | [], _, j, c, h => by cases h
  | a :: l, i, 0, c, h => by
    cases h
    exact ⟨a, i, rfl, rfl⟩
  | a :: l, i, j + 1, c, h => chG_get l (i / a) j c h
/-- the choices of a cover fit their blocks -/
theorem choice_ok {bs : List Bk} (hb : ∀ k ∈ bs, k.1 ≤ k.2) (ix : Int) {kc : Bk × Int} (h : kc ∈ bs.zip (chG (bs.map numB).reverse ix).reverse) : kc.1 ∈ bs ∧ 0 ≤ kc.2 ∧ kc.2 < numB kc.1 := by
  obtain ⟨i, hi⟩ := List.mem_iff_getElem?.mp h
  obtain ⟨h1, h2⟩ := List.getElem?_zip_eq_some.mp hi
  have hk := List.mem_of_getElem? h1
  have il : i < bs.length := (List.getElem?_eq_some_iff.mp h1).1
  have cl : (chG (bs.map numB).reverse ix).length = bs.length := by rw [chG_len]; simp
  rw [List.getElem?_reverse (by rw [cl]; exact il), cl] at h2
  obtain ⟨n, x, hn, e⟩ := chG_get _ _ _ _ h2
  rw [List.getElem?_reverse (by rw [List.length_map]; omega), List.length_map, List.getElem?_map, show bs.length - 1 - (bs.length - 1 - i) = i by omega, h1] at hn
  have hn : numB kc.1 = n := Option.some.inj hn
  have np := numB_pos (hb _ hk)
  refine ⟨hk, ?_, ?_⟩
  · rw [e, ← hn]
    exact Int.emod_nonneg x (by omega)
  · rw [e, ← hn]
    exact Int.emod_lt_of_pos x (by omega)
theorem singles_flat : ∀ (l : List (Bk × Int)), (∀ kc ∈ l, kc.1.1 ≤ kc.1.2 ∧ 0 ≤ kc.2 ∧ kc.2 < numB kc.1) → (((singlesL (l.flatMap fun kc => coverB kc.1 kc.2)).length : Nat) : Int) % 2 = (l.map fun kc => sizeB kc.1).sum % 2
  | [], _ => rfl
  | kc :: l, h => by
    have ih := singles_flat l fun x hx => h x (List.mem_cons_of_mem _ hx)
    obtain ⟨h1, h2, h3⟩ := h kc List.mem_cons_self
    rw [List.flatMap_cons, singles_app, List.length_append, cover_singles h1 h2 h3, List.map_cons, List.sum_cons]
    have es : sizeB kc.1 = kc.1.2 - kc.1.1 + 1 := rfl
    split
    · show ((1 + _ : Nat) : Int) % 2 = _
      omega
    · show ((0 + _ : Nat) : Int) % 2 = _
      omega
theorem zip_fst_sum : ∀ (bs : List Bk) (cs : List Int), cs.length = bs.length → ((bs.zip cs).map fun kc => sizeB kc.1) = bs.map sizeB
  | [], _, _ => rfl
  | b :: bs, [], h => by cases h
  | b :: bs, c :: cs, h => by
    exact congrArg (sizeB b :: ·) (zip_fst_sum bs cs (by simpa using h))
theorem singles_even (ns ms : List Int) (ix : Int) : (singlesL (coverL (blocksL (bordersL ns ms)) ix)).length % 2 = 0 := by
  have h := singles_flat ((blocksL (bordersL ns ms)).zip (chG ((blocksL (bordersL ns ms)).map numB).reverse ix).reverse) fun kc hk => by
    obtain ⟨a, b, c⟩ := choice_ok (blocks_le _) ix hk
    exact ⟨blocks_le _ _ a, b, c⟩
  rw [zip_fst_sum _ _ (by rw [List.length_reverse, chG_len]; simp), blocks_size] at h
  have := borders_even ns ms
  unfold coverL
  omega
theorem cover_len (bs : List Bk) (hb : ∀ k ∈ bs, k.2 - k.1 ≤ 500) (ix : Int) : (coverL bs ix).length ≤ 501 * bs.length := by
  unfold coverL
  have go : ∀ (l : List (Bk × Int)), (∀ kc ∈ l, kc.1.2 - kc.1.1 ≤ 500) → (l.flatMap fun kc => coverB kc.1 kc.2).length ≤ 501 * l.length := fun l => by
    induction l with
    | nil => intro _; exact Nat.le_refl _
    | cons kc l ih =>
      intro h
      have h1 := ih fun x hx => h x (List.mem_cons_of_mem _ hx)
      have h2 := coverB_len (c := kc.2) (h kc List.mem_cons_self)
      rw [List.flatMap_cons, List.length_append, List.length_cons]
      omega
  refine Nat.le_trans (go _ fun kc hk => hb _ (List.of_mem_zip hk).1) ?_
  exact Nat.mul_le_mul_left _ (by rw [List.length_zip]; exact Nat.min_le_left _ _)
end K76
set_option Elab.async false
set_option pp.maxSteps 1200
set_option linter.all false
set_option maxRecDepth 100000
set_option maxHeartbeats 4000000
namespace K76
open PySem L2 My
def bestL (ns ms : List Int) : List Cl := clicksL (coverL (blocksL (bordersL ns ms)) 0)
def sp_cheapest_in (K : PySem.W.Frag) : Sp := fun vs H Q _ => ∃ (a m : Addr) (ns ms : List Int), vs = [.ref a, .ref m] ∧ SqL K H a (ns.map V.int) ∧ SqL K H m (ms.map V.int) ∧ ns.length ≤ 400 ∧ ∀ p H' us, H p = none → Ex H H' → H' p = some (.lst us) → AllR (IsCl K H') us (bestL ns ms) → Q (.ref p) H'
def sp_cheapest_clicks (K : PySem.W.Frag) : Sp := fun vs H Q _ => ∃ (a m : Addr) (ns ms : List Int), vs = [.ref a, .ref m] ∧ SqL K H a (ns.map V.int) ∧ SqL K H m (ms.map V.int) ∧ ns.Nodup ∧ ns.length ≤ 400 ∧ ms.Pairwise (· < ·) ∧ ms.length ≤ 1000 ∧ (∀ r ∈ ms, r ∈ ns) ∧ ∀ p H' us, H p = none → Ex H H' → H' p = some (.lst us) → AllR (IsCl K H') us (bestL ns ms) → Q (.ref p) H'
section
variable {w : World} {K : PySem.W.Frag} {mg : Str → Option Value} {base : Heap}
theorem ok_cheapest_in (T : Txt K mg) : FnOk PR w K mg base CX0 3 T.a_cheapest_in T.d_cheapest_in ["there", "marks"] (sp_cheapest_in K) := by
  refine T.f_cheapest_in.ok sc_cheapest_in (fun vs H Q E h => ?_) (fun cdv A outer s H vs Q E hr h => ?_)
  · obtain ⟨a, m, ns, ms, rfl, _⟩ := h
    rfl
  · obtain ⟨a, m, ns, ms, rfl, ha, hm, nl, k⟩ := h
    refine ⟨_, (pss_one (ps_ret (pe_call (ok_clicks_in T) (hr.mono (by decide)) (by rfl) T.g_clicks_in T.f_clicks_in.kp (b_clicks_in T) .nil pass0 (pa_cons (pe_call (ok_cover_in T) (hr.mono (by decide)) (by rfl) T.g_cover_in T.f_cover_in.kp (b_cover_in T) .nil pass0 (pa_cons (pv 0) (pa_cons (pv 1) (pa_cons pe_int pa_nil)))) pa_nil)))), ?_⟩
    refine ⟨_, rfl, _, rfl, a, m, ns, ms, 0, rfl, ha, hm, nl, Int.le_refl _, fun p1 H1 us n1 e1 h1 a1 => ?_⟩
    have bl := borders_len ns ms
    have kl := blocks_len (bordersL ns ms)
    have cl := cover_len (blocksL (bordersL ns ms)) (fun kk hk => by
      have := blocks_in hk
      omega) 0
    refine ⟨p1, us, _, rfl, sqI h1, a1, by omega, singles_even ns ms 0, fun p2 H2 us2 n2 e2 h2 a2 => k p2 H2 us2 (none_of e1 n2) (e1.trans e2) h2 a2⟩
theorem ok_cheapest_clicks (T : Txt K mg) : FnOk PR w K mg base (L2.CX PR w) 4 T.a_cheapest_clicks T.d_cheapest_clicks ["there", "marks"] (sp_cheapest_clicks K) := by
  refine T.f_cheapest_clicks.okX sc_cheapest_clicks (fun vs H Q E h => ?_) (fun cdv A outer s H vs Q E hr h => ?_)
  · obtain ⟨a, m, ns, ms, rfl, _⟩ := h
    rfl
  · obtain ⟨a, m, ns, ms, rfl, ha, hm, nd, nl, pw, ml, sub, k⟩ := h
    refine ⟨_, (pss_cons (ps_expr (pe_call (ok_check_there T) (hr.mono (by decide)) (by rfl) T.g_check_there T.f_check_there.kp (b_check_there T) .nil passX (pa_cons (pv 0) pa_nil))) (pss_cons (ps_expr (pe_call (ok_check_marks_there T) (hr.mono (by decide)) (by rfl) T.g_check_marks_there T.f_check_marks_there.kp (b_check_marks_there T) .nil passX (pa_cons (pv 0) (pa_cons (pv 1) pa_nil)))) (pss_one (ps_ret (pe_call (ok_cheapest_in T) (hr.mono (by decide)) (by rfl) T.g_cheapest_in T.f_cheapest_in.kp (b_cheapest_in T) .nil pass0 (pa_cons (pv 0) (pa_cons (pv 1) pa_nil))))))), ?_⟩
    refine ⟨_, rfl, a, ns, rfl, ha, nd, by omega, ?_⟩
    refine ⟨_, rfl, _, rfl, a, m, ns, ms, rfl, ha, hm, by omega, pw, ml, sub, fun H1 e1 => ?_⟩
    exact ⟨_, rfl, _, rfl, a, m, ns, ms, rfl, Evl.ex_l e1 ha, Evl.ex_l e1 hm, nl, fun p H2 us n2 e2 h2 a2 => k p H2 us (none_of e1 n2) (e1.trans e2) h2 a2⟩
end
end K76
set_option Elab.async false
set_option linter.all false
set_option maxRecDepth 100000
set_option maxHeartbeats 4000000
namespace K76
open PySem L2 My
/-! states by positions (as in K27) -/
abbrev Sc := List Bool × Option Nat
def movesC (n : Nat) : List (Bool × Nat) := (List.range n).map (fun p => (false, p)) ++ (List.range n).map fun p => (true, p)
def fillC (fl : List Bool) (a p : Nat) : List Bool := (List.range fl.length).map fun i => if min a p ≤ i ∧ i ≤ max a p then fl.getD a false else fl.getD i false
def stepC (st : Sc) (m : Bool × Nat) : Sc := if m.1 = true ∧ st.2.isSome = true then (fillC st.1 (st.2.getD 0) m.2, st.2) else (st.1.set m.2 (!st.1.getD m.2 false), some m.2)
def flagsC (fl : List Bool) : List Bool := [false] ++ fl ++ [false]
def bordersC (fl : List Bool) : List Int := ((List.range (fl.length + 1)).map fun i => (0 : Int) + ((i : Nat) : Int)).filter fun p => !decide ((flagsC fl).getD p.toNat false = (flagsC fl).getD (p.toNat + 1) false)
def costC (fl : List Bool) : Int := ((blocksL (bordersC fl)).map costB).sum
theorem costL_C (ns ms : List Int) : costL ns ms = costC (ns.map fun r => decide (r ∈ ms)) := by
  unfold costL costC bordersL bordersC
  rw [List.length_map]
  rfl
end K76
set_option Elab.async false
set_option pp.maxSteps 1200
set_option linter.all false
set_option maxRecDepth 100000
set_option maxHeartbeats 4000000
namespace K76
open PySem L2 My
/-! states by names and by positions -/
theorem span_mem {l : List Int} {a b : Nat} {r : Int} : r ∈ span l a b ↔ ∃ i, min a b ≤ i ∧ i ≤ max a b ∧ l[i]? = some r := by
  unfold span
  rw [List.mem_iff_getElem?]
  constructor
  · rintro ⟨j, hj⟩
    have jl : j < max a b + 1 - min a b := by
      have := (List.getElem?_eq_some_iff.mp hj).1
      rw [List.length_take] at this
      omega
    rw [List.getElem?_take_of_lt jl, List.getElem?_drop] at hj
    exact ⟨min a b + j, by omega, by omega, hj⟩
  · rintro ⟨i, h1, h2, h3⟩
    refine ⟨i - min a b, ?_⟩
    rw [List.getElem?_take_of_lt (by omega), List.getElem?_drop, show min a b + (i - min a b) = i by omega]
    exact h3
theorem inj_at {ns : List Int} (nd : ns.Nodup) {i j : Nat} {r : Int} (h1 : ns[i]? = some r) (h2 : ns[j]? = some r) : i = j := by
  obtain ⟨a, e1⟩ := List.getElem?_eq_some_iff.mp h1
  obtain ⟨b, e2⟩ := List.getElem?_eq_some_iff.mp h2
  exact nodup_inj nd a b (e1.trans e2.symm)
def srtM (ns : List Int) (fl : List Bool) : List Int := (((ns.zip fl).filter (·.2)).map (·.1)).mergeSort fun a b => decide (a ≤ b)
theorem srt_mem {ns : List Int} {fl : List Bool} {r : Int} : r ∈ srtM ns fl ↔ ∃ i : Nat, ns[i]? = some r ∧ fl[i]? = some true := by
  unfold srtM
  rw [(List.mergeSort_perm _ _).mem_iff, List.mem_map]
  constructor
  · rintro ⟨⟨x, b⟩, hm, rfl⟩
    obtain ⟨h1, h2⟩ := List.mem_filter.mp hm
    obtain ⟨i, hi⟩ := List.mem_iff_getElem?.mp h1
    obtain ⟨e1, e2⟩ := List.getElem?_zip_eq_some.mp hi
    exact ⟨i, e1, by rw [e2]; exact congrArg some h2⟩
  · rintro ⟨i, h1, h2⟩
    exact ⟨(r, true), List.mem_filter.mpr ⟨List.mem_iff_getElem?.mpr ⟨i, List.getElem?_zip_eq_some.mpr ⟨h1, h2⟩⟩, rfl⟩, rfl⟩
theorem srt_asc {ns : List Int} {fl : List Bool} (nd : ns.Nodup) (hl : fl.length = ns.length) : (srtM ns fl).Pairwise (· < ·) := by
  refine asc_of (List.mergeSort_perm _ _) ?_ ?_
  · exact (List.pairwise_mergeSort (le := fun a b : Int => decide (a ≤ b)) (fun a b c h1 h2 => by simp at h1 h2 ⊢; omega) (fun a b => by simp; omega) _).imp fun {a b} h => by simpa using h
  · refine List.Nodup.sublist (List.Sublist.map _ List.filter_sublist) ?_
    rw [List.map_fst_zip (by omega)]
    exact nd
theorem srt_sub {ns : List Int} {fl : List Bool} {r : Int} (h : r ∈ srtM ns fl) : r ∈ ns := by
  obtain ⟨i, h1, _⟩ := srt_mem.mp h
  exact List.mem_of_getElem? h1
theorem srt_at {ns : List Int} {fl : List Bool} (nd : ns.Nodup) (hl : fl.length = ns.length) {i : Nat} {r : Int} (h : ns[i]? = some r) : r ∈ srtM ns fl ↔ fl.getD i false = true := by
  have hi : i < fl.length := by rw [hl]; exact (List.getElem?_eq_some_iff.mp h).1
  rw [srt_mem, List.getD_eq_getElem?_getD, List.getElem?_eq_getElem hi]
  constructor
  · rintro ⟨j, h1, h2⟩
    obtain rfl := inj_at nd h h1
    rw [List.getElem?_eq_getElem hi] at h2
    exact Option.some.inj h2
  · intro e
    exact ⟨i, h, by rw [List.getElem?_eq_getElem hi]; exact congrArg some e⟩
theorem srt_len {ns : List Int} {fl : List Bool} (nd : ns.Nodup) (hl : fl.length = ns.length) : (srtM ns fl).length ≤ ns.length := nodup_len (pw_nodup (srt_asc nd hl)) fun r hr => srt_sub hr
theorem flag_ext {f g : List Bool} {n : Nat} (hf : f.length = n) (hg : g.length = n) (h : ∀ i, i < n → f.getD i false = g.getD i false) : f = g := by
  refine List.ext_getElem (hf.trans hg.symm) fun i h1 h2 => ?_
  have := h i (by omega)
  rw [List.getD_eq_getElem?_getD, List.getD_eq_getElem?_getD, List.getElem?_eq_getElem h1, List.getElem?_eq_getElem h2] at this
  exact this
theorem srt_inj {ns : List Int} (nd : ns.Nodup) {f g : List Bool} (hf : f.length = ns.length) (hg : g.length = ns.length) (e : srtM ns f = srtM ns g) : f = g := by
  refine flag_ext hf hg fun i hi => ?_
  have hr : ns[i]? = some ns[i] := List.getElem?_eq_getElem hi
  have := srt_at nd hf hr
  rw [e, srt_at nd hg hr] at this
  rw [Bool.eq_iff_iff]
  exact this.symm
def valA (ns : List Int) (a : Option Nat) : Option Int := a.map fun p => ns.getD p 0
structure VS (n : Nat) (st : Sc) : Prop where
  len : st.1.length = n
  anc : ∀ p, st.2 = some p → p < n
theorem get_row {ns : List Int} {p : Nat} (h : p < ns.length) : ns[p]? = some (ns.getD p 0) := by
  rw [List.getD_eq_getElem?_getD, List.getElem?_eq_getElem h]
  rfl
theorem set_getD {f : List Bool} {p i : Nat} {b : Bool} (h : p < f.length) : (f.set p b).getD i false = if i = p then b else f.getD i false := by
  rw [List.getD_eq_getElem?_getD, List.getElem?_set]
  by_cases e : p = i
  · subst e
    rw [if_pos rfl, if_pos h, if_pos rfl]
    rfl
  · rw [if_neg e, if_neg (fun z => e z.symm), List.getD_eq_getElem?_getD]
theorem fill_getD {f : List Bool} {a p i : Nat} (h : i < f.length) : (fillC f a p).getD i false = if min a p ≤ i ∧ i ≤ max a p then f.getD a false else f.getD i false := by
  unfold fillC
  rw [List.getD_eq_getElem?_getD, List.getElem?_map, List.getElem?_range h]
  rfl
def wordC (b : Bool) : Str := if b = true then "range" else "click"
theorem step_rel {ns : List Int} (nd : ns.Nodup) {st : Sc} (v : VS ns.length st) {b : Bool} {p : Nat} (hp : p < ns.length) :
    VS ns.length (stepC st (b, p)) ∧ (done ns (srtM ns st.1) (valA ns st.2) [(wordC b, (p : Int))]).2 = valA ns (stepC st (b, p)).2 ∧ ∀ i r, ns[i]? = some r → (done ns (srtM ns st.1) (valA ns st.2) [(wordC b, (p : Int))]).1 r = (stepC st (b, p)).1.getD i false := by
  obtain ⟨f, a⟩ := st
  have hl : f.length = ns.length := v.len
  have flag : ∀ {i r}, ns[i]? = some r → decide (r ∈ srtM ns f) = f.getD i false := fun {i r} h => by
    rw [Bool.eq_iff_iff, decide_eq_true_iff]
    exact srt_at nd hl h
  have click : rng ns (wordC b) (valA ns a) = none → stepC (f, a) (b, p) = (f.set p (!f.getD p false), some p) → VS ns.length (stepC (f, a) (b, p)) ∧ (done ns (srtM ns f) (valA ns a) [(wordC b, (p : Int))]).2 = valA ns (stepC (f, a) (b, p)).2 ∧ ∀ i r, ns[i]? = some r → (done ns (srtM ns f) (valA ns a) [(wordC b, (p : Int))]).1 r = (stepC (f, a) (b, p)).1.getD i false := fun h e => by
    have ed : done ns (srtM ns f) (valA ns a) [(wordC b, (p : Int))] = (fun r => if r = rowAt ns p then !decide (r ∈ srtM ns f) else decide (r ∈ srtM ns f), some (rowAt ns p)) := step_cl h
    rw [ed, e]
    refine ⟨⟨by show (f.set _ _).length = _; rw [List.length_set]; exact hl, fun q hq => by cases hq; exact hp⟩, rfl, fun i r hr => ?_⟩
    have er : (r = rowAt ns (p : Int)) ↔ i = p := by
      constructor
      · intro z
        exact inj_at nd hr (by rw [z]; exact get_row hp)
      · intro z
        have := get_row hp
        rw [← z, hr] at this
        rw [Option.some.inj this, z]
        rfl
    show (if r = rowAt ns (p : Int) then _ else _) = _
    rw [set_getD (by omega), flag hr]
    by_cases z : i = p
    · rw [if_pos (er.mpr z), if_pos z, z]
    · rw [if_neg (fun y => z (er.mp y)), if_neg z]
  cases b with
  | false =>
    refine click ?_ ?_
    · unfold rng
      cases valA ns a with
      | none => rfl
      | some n => exact if_neg (fun z => absurd z.1 (by decide))
    · unfold stepC
      rw [if_neg (fun z => Bool.noConfusion z.1)]
  | true =>
    cases a with
    | none =>
      refine click rfl ?_
      unfold stepC
      rw [if_neg (fun z => Bool.noConfusion z.2)]
    | some q =>
      have hq : q < ns.length := v.anc q rfl
      have gq := get_row hq
      have hm : ns.getD q 0 ∈ ns := List.mem_of_getElem? gq
      have hr : rng ns (wordC true) (valA ns (some q)) = some (ns.getD q 0) := by
        show (if wordC true = "range" ∧ ns.getD q 0 ∈ ns then some (ns.getD q 0) else none) = _
        rw [if_pos ⟨rfl, hm⟩]
      have e : stepC (f, some q) (true, p) = (fillC f q p, some q) := by
        unfold stepC
        rw [if_pos ⟨rfl, rfl⟩]
        rfl
      have ed : done ns (srtM ns f) (valA ns (some q)) [(wordC true, (p : Int))] = (fun r => if r ∈ span ns (ns.idxOf (ns.getD q 0)) p then decide (ns.getD q 0 ∈ srtM ns f) else decide (r ∈ srtM ns f), valA ns (some q)) := step_rng hr
      rw [ed, e, idx_of nd gq]
      refine ⟨⟨by show (fillC f q p).length = _; unfold fillC; rw [List.length_map, List.length_range]; exact hl, fun q' hq' => by cases hq'; exact hq⟩, rfl, fun i r hir => ?_⟩
      have hi : i < f.length := by rw [hl]; exact (List.getElem?_eq_some_iff.mp hir).1
      have er : r ∈ span ns q p ↔ min q p ≤ i ∧ i ≤ max q p := by
        rw [span_mem]
        constructor
        · rintro ⟨j, h1, h2, h3⟩
          obtain rfl := inj_at nd hir h3
          exact ⟨h1, h2⟩
        · rintro ⟨h1, h2⟩
          exact ⟨i, h1, h2, hir⟩
      show (if r ∈ span ns q p then _ else _) = _
      rw [fill_getD hi, flag gq, flag hir]
      by_cases z : min q p ≤ i ∧ i ≤ max q p
      · rw [if_pos (er.mpr z), if_pos z]
      · rw [if_neg (fun y => z (er.mp y)), if_neg z]
theorem rs_srt {ns : List Int} (nd : ns.Nodup) {st : Sc} (v : VS ns.length st) {b : Bool} {p : Nat} (hp : p < ns.length) {rs : List Int} (pw : rs.Pairwise (· < ·)) (hi : ∀ r, r ∈ rs ↔ (done ns (srtM ns st.1) (valA ns st.2) [(wordC b, (p : Int))]).1 r = true) (hs : ∀ r ∈ rs, r ∈ srtM ns st.1 ++ ns) : rs = srtM ns (stepC st (b, p)).1 := by
  obtain ⟨v', _, h⟩ := step_rel nd v (b := b) hp
  have inns : ∀ r ∈ rs, r ∈ ns := fun r hr => (List.mem_append.mp (hs r hr)).elim srt_sub id
  refine asc_unique pw (srt_asc nd v'.len) fun r => ?_
  constructor
  · intro hr
    obtain ⟨i, hir⟩ := List.mem_iff_getElem?.mp (inns r hr)
    rw [srt_at nd v'.len hir, ← h i r hir]
    exact (hi r).mp hr
  · intro hr
    obtain ⟨i, hir⟩ := List.mem_iff_getElem?.mp (srt_sub hr)
    rw [hi, h i r hir]
    exact (srt_at nd v'.len hir).mp hr
end K76
set_option Elab.async false
set_option pp.maxSteps 1200
set_option linter.all false
set_option maxRecDepth 100000
set_option maxHeartbeats 4000000
namespace K76
open PySem L2 My
/-! blocks from the front, turned about, moved -/
def addF (a : Int) (bs : List Bk) : List Bk := match bs with
  | [] => [(a, a)]
  | k :: r => if k.1 = a + 1 then (a, k.2) :: r else (a, a) :: k :: r
theorem addB_nil (b : Int) : addB [] b = [(b, b)] := rfl
theorem addB_one (k : Bk) (b : Int) : addB [k] b = if k.2 = b - 1 then [(k.1, b)] else [k, (b, b)] := addB_snoc [] k b
theorem addB_cons (k l : Bk) (bs : List Bk) (b : Int) : addB (k :: l :: bs) b = k :: addB (l :: bs) b := by
  obtain ⟨m, x, e⟩ : ∃ m x, l :: bs = m ++ [x] := ⟨_, _, (List.dropLast_concat_getLast (by simp)).symm⟩
  rw [e, show k :: (m ++ [x]) = (k :: m) ++ [x] from rfl, addB_snoc, addB_snoc]
  split <;> rfl
theorem addB_ne (bs : List Bk) (b : Int) : addB bs b ≠ [] := by
  unfold addB
  split
  · simp
  · split <;> simp
theorem add_comm (a b : Int) : ∀ bs : List Bk, addF a (addB bs b) = addB (addF a bs) b
  | [] => by
    rw [addB_nil]
    show addF a [(b, b)] = addB [(a, a)] b
    rw [addB_one]
    show (if b = a + 1 then [(a, b)] else [(a, a), (b, b)]) = if a = b - 1 then [(a, b)] else [(a, a), (b, b)]
    by_cases e : b = a + 1
    · rw [if_pos e, if_pos (show a = b - 1 by omega)]
    · rw [if_neg e, if_neg (show ¬ a = b - 1 by omega)]
  | [k] => by
    rw [addB_one]
    by_cases e : k.2 = b - 1
    · rw [if_pos e]
      unfold addF
      by_cases d : k.1 = a + 1
      · simp only [if_pos d]
        rw [addB_one, if_pos e]
      · simp only [if_neg d]
        rw [addB_cons, addB_one, if_pos e]
    · rw [if_neg e]
      unfold addF
      by_cases d : k.1 = a + 1
      · simp only [if_pos d]
        rw [addB_one, if_neg e]
      · simp only [if_neg d]
        rw [addB_cons, addB_one, if_neg e]
  | k :: l :: bs => by
    rw [addB_cons]
    unfold addF
    by_cases d : k.1 = a + 1
    · simp only [if_pos d]
      rw [addB_cons]
    · simp only [if_neg d]
      rw [addB_cons, addB_cons]
theorem fold_front (a : Int) : ∀ (ps : List Int) (bs : List Bk), ps.foldl addB (addF a bs) = addF a (ps.foldl addB bs)
  | [], _ => rfl
  | p :: ps, bs => by
    rw [List.foldl_cons, List.foldl_cons, ← add_comm, fold_front a ps]
theorem blocks_cons (p : Int) (ps : List Int) : blocksL (p :: ps) = addF p (blocksL ps) := fold_front p ps []
theorem blocks_front : ∀ ps : List Int, blocksL ps = ps.foldr addF []
  | [] => rfl
  | p :: ps => by rw [blocks_cons, blocks_front ps]; rfl
def mirB (S : Int) (k : Bk) : Bk := (S - k.2, S - k.1)
theorem add_mir (S p : Int) (bs : List Bk) : addB ((bs.map (mirB S)).reverse) (S - p) = ((addF p bs).map (mirB S)).reverse := by
  cases bs with
  | nil => rfl
  | cons k r =>
    have ea : addF p (k :: r) = if k.1 = p + 1 then (p, k.2) :: r else (p, p) :: k :: r := rfl
    rw [List.map_cons, List.reverse_cons, addB_snoc, ea]
    by_cases e : k.1 = p + 1
    · rw [if_pos (show (mirB S k).2 = S - p - 1 by show S - k.1 = _; omega), if_pos e, List.map_cons, List.reverse_cons]
      rfl
    · rw [if_neg (show ¬ (mirB S k).2 = S - p - 1 by show ¬ S - k.1 = _; omega), if_neg e, List.map_cons, List.map_cons, List.reverse_cons, List.reverse_cons]
      rfl
theorem blocks_mir (S : Int) : ∀ ps : List Int, blocksL ((ps.map fun p => S - p).reverse) = ((blocksL ps).map (mirB S)).reverse
  | [] => rfl
  | p :: ps => by
    rw [blocks_cons, ← add_mir, ← blocks_mir S ps, List.map_cons, List.reverse_cons]
    unfold blocksL
    rw [List.foldl_append]
    rfl
def shB (d : Int) (k : Bk) : Bk := (k.1 + d, k.2 + d)
theorem add_sh (d p : Int) (bs : List Bk) : addF (p + d) (bs.map (shB d)) = (addF p bs).map (shB d) := by
  cases bs with
  | nil => rfl
  | cons k r =>
    unfold addF
    rw [List.map_cons]
    by_cases e : k.1 = p + 1
    · simp only [if_pos (show (shB d k).1 = p + d + 1 by show k.1 + d = _; omega), if_pos e]
      rfl
    · simp only [if_neg (show ¬ (shB d k).1 = p + d + 1 by show ¬ k.1 + d = _; omega), if_neg e]
      rfl
theorem blocks_sh (d : Int) : ∀ ps : List Int, blocksL (ps.map fun p => p + d) = (blocksL ps).map (shB d)
  | [] => rfl
  | p :: ps => by
    rw [List.map_cons, blocks_cons, blocks_cons, blocks_sh d ps, add_sh]
theorem cost_mir (S : Int) (k : Bk) : costB (mirB S k) = costB k := by
  unfold costB mirB
  show (S - k.1 - (S - k.2) + 2) / 2 = _
  rw [show S - k.1 - (S - k.2) + 2 = k.2 - k.1 + 2 by omega]
theorem num_mir (S : Int) (k : Bk) : numB (mirB S k) = numB k := by
  unfold numB mirB
  show (if (S - k.1 - (S - k.2) + 1) % 2 = 1 then _ else _) = _
  rw [show S - k.1 - (S - k.2) + 1 = k.2 - k.1 + 1 by omega]
theorem cost_sh (d : Int) (k : Bk) : costB (shB d k) = costB k := by
  unfold costB shB
  show (k.2 + d - (k.1 + d) + 2) / 2 = _
  rw [show k.2 + d - (k.1 + d) + 2 = k.2 - k.1 + 2 by omega]
theorem num_sh (d : Int) (k : Bk) : numB (shB d k) = numB k := by
  unfold numB shB
  show (if (k.2 + d - (k.1 + d) + 1) % 2 = 1 then _ else _) = _
  rw [show k.2 + d - (k.1 + d) + 1 = k.2 - k.1 + 1 by omega]
theorem foldl_mul : ∀ (l : List Int) (z : Int), l.foldl (· * ·) z = z * l.foldl (· * ·) 1
  | [], z => by simp
  | x :: l, z => by
    rw [List.foldl_cons, List.foldl_cons, foldl_mul l (z * x), foldl_mul l (1 * x), Int.one_mul, Int.mul_assoc]
theorem foldl_mul_app (a b : List Int) : (a ++ b).foldl (· * ·) 1 = a.foldl (· * ·) 1 * b.foldl (· * ·) 1 := by
  rw [List.foldl_append, foldl_mul]
theorem foldl_mul_rev : ∀ l : List Int, l.reverse.foldl (· * ·) 1 = l.foldl (· * ·) 1
  | [] => rfl
  | x :: l => by
    rw [List.reverse_cons, foldl_mul_app, foldl_mul_rev l, List.foldl_cons, List.foldl_nil, List.foldl_cons, Int.one_mul, foldl_mul l x, Int.mul_comm]
/-! turned about: borders, cost, number of covers -/
theorem chgs_rev (f f' : Nat → Bool) (N : Nat) (h : ∀ p, p ≤ N → f' p = f (N - p)) : chgs f' N = ((chgs f N).reverse).map fun i => N - 1 - i := by
  have hr : List.range N = ((List.range N).reverse).map fun i => N - 1 - i := by
    refine List.ext_getElem? fun i => ?_
    by_cases hi : i < N
    · rw [List.getElem?_map, List.getElem?_reverse (by simpa using hi), List.length_range, List.getElem?_range hi, List.getElem?_range (by omega)]
      show some i = some (N - 1 - (N - 1 - i))
      congr 1
      omega
    · rw [List.getElem?_eq_none (by simpa using hi), List.getElem?_eq_none (by simpa using hi)]
  unfold chgs
  conv => lhs; rw [hr]
  rw [List.filter_map, List.filter_reverse]
  congr 2
  refine List.filter_congr fun i hi => ?_
  have hi := List.mem_range.mp hi
  show (!decide (f' (N - 1 - i) = f' (N - 1 - i + 1))) = !decide (f i = f (i + 1))
  rw [h _ (by omega), h _ (by omega), show N - (N - 1 - i) = i + 1 by omega, show N - (N - 1 - i + 1) = i by omega]
  congr 1
  rw [decide_eq_decide]
  exact ⟨Eq.symm, Eq.symm⟩
theorem flag_rev (ns ms : List Int) (p : Nat) (h : p ≤ ns.length + 1) : (flagL ns.reverse ms).getD p false = (flagL ns ms).getD (ns.length + 1 - p) false := by
  have e : flagL ns.reverse ms = (flagL ns ms).reverse := by
    unfold flagL
    simp
  have fl : (flagL ns ms).length = ns.length + 2 := by simp [flagL]
  rw [e, List.getD_eq_getElem?_getD, List.getD_eq_getElem?_getD, List.getElem?_reverse (by omega), fl]
  rw [show ns.length + 2 - 1 - p = ns.length + 1 - p by omega]
theorem borders_rev (ns ms : List Int) : bordersL ns.reverse ms = ((bordersL ns ms).map fun b => (ns.length : Int) - b).reverse := by
  rw [borders_chgs, borders_chgs, List.length_reverse, chgs_rev (fun p => (flagL ns ms).getD p false) (fun p => (flagL ns.reverse ms).getD p false) _ (fun p hp => flag_rev ns ms p hp), List.map_map, List.map_map, ← List.map_reverse]
  refine List.map_congr_left fun i hi => ?_
  have := List.mem_range.mp (List.mem_filter.mp (List.mem_reverse.mp hi)).1
  show ((ns.length + 1 - 1 - i : Nat) : Int) = (ns.length : Int) - (i : Int)
  omega
theorem cost_rev (ns ms : List Int) : costL ns.reverse ms = costL ns ms := by
  unfold costL
  rw [borders_rev, blocks_mir, List.map_reverse, List.sum_reverse, List.map_map]
  congr 2
  funext k
  exact cost_mir _ k
theorem count_rev (ns ms : List Int) : countL ns.reverse ms = countL ns ms := by
  unfold countL
  rw [borders_rev, blocks_mir, List.map_reverse, foldl_mul_rev, List.map_map]
  congr 2
  funext k
  exact num_mir _ k
end K76
set_option Elab.async false
set_option pp.maxSteps 1200
set_option linter.all false
set_option maxRecDepth 100000
set_option maxHeartbeats 4000000
namespace K76
open PySem L2 My
/-! the best clicks are as many as the cost -/
theorem coverGo_tok (k : Bk) (c : Int) : ∀ n b, ∀ t ∈ coverGo k c n b, t.length = 1 ∨ t.length = 2
  | 0, _, t, h => by cases h
  | n + 1, b, t, h => by
    unfold coverGo at h
    split at h
    · split at h
      · rcases List.mem_cons.mp h with z | z
        · rw [z]; exact .inl rfl
        · exact coverGo_tok k c n _ t z
      · rcases List.mem_cons.mp h with z | z
        · rw [z]; exact .inr rfl
        · exact coverGo_tok k c n _ t z
    · cases h
theorem tok_count : ∀ l : List (List Int), (∀ t ∈ l, t.length = 1 ∨ t.length = 2) → (singlesL l).length + (l.filter fun t => decide (t.length = 2)).length = l.length
  | [], _ => rfl
  | t :: l, h => by
    have ih := tok_count l fun x hx => h x (List.mem_cons_of_mem _ hx)
    have e : singlesL (t :: l) = singlesL [t] ++ singlesL l := singles_app [t] l
    rw [e, List.length_append, List.filter_cons, List.length_cons]
    rcases h t List.mem_cons_self with z | z
    · rw [if_neg (by simp [z])]
      have : (singlesL [t]).length = 1 := by
        unfold singlesL
        rw [List.filter_cons, if_pos (decide_eq_true z)]
        rfl
      omega
    · rw [if_pos (decide_eq_true z), List.length_cons]
      have : (singlesL [t]).length = 0 := by
        unfold singlesL
        rw [List.filter_cons, if_neg (by simp [z])]
        rfl
      omega
theorem pairs_even : ∀ l : List Int, l.length % 2 = 0 → (pairsL l).length = l.length
  | [], _ => rfl
  | [x], h => by simp at h
  | x :: y :: l, h => by
    have := pairs_even l (by simp only [List.length_cons] at h; omega)
    show (pairsL l).length + 1 + 1 = l.length + 1 + 1
    omega
/-- without a single token ahead: pairs alone -/
theorem go_len_none (k : Bk) (c : Int) : ∀ (n : Nat) (b : Int), ((k.2 - k.1) % 2 ≠ 0 ∨ b > k.1 + 2 * c) → b ≤ k.2 + 1 → (k.2 - b + 1) % 2 = 0 → (k.2 - b + 1).toNat ≤ n → ((coverGo k c n b).length : Int) = (k.2 - b + 1) / 2
  | 0, b, _, h1, h2, h3 => by
    show (0 : Int) = _
    omega
  | n + 1, b, h, h1, h2, h3 => by
    unfold coverGo
    split
    · rw [if_neg (fun z => by rcases h with h | h; exact h z.1; omega), List.length_cons]
      have := go_len_none k c n (b + 2) (h.imp id fun z => by omega) (by omega) (by omega) (by omega)
      omega
    · show (0 : Int) = _
      omega
theorem go_len_one (k : Bk) (c : Int) (h : (k.2 - k.1) % 2 = 0) (hc : k.1 + 2 * c ≤ k.2) : ∀ (n : Nat) (b : Int), b ≤ k.1 + 2 * c → (k.1 + 2 * c - b) % 2 = 0 → (k.2 - b + 1).toNat ≤ n → ((coverGo k c n b).length : Int) = (k.2 - b + 2) / 2
  | 0, b, h1, _, h3 => by omega
  | n + 1, b, h1, h2, h3 => by
    unfold coverGo
    rw [if_pos (by omega)]
    by_cases e : b = k.1 + 2 * c
    · rw [if_pos ⟨h, e⟩, List.length_cons]
      have := go_len_none k c n (b + 1) (.inr (by omega)) (by omega) (by omega) (by omega)
      omega
    · rw [if_neg (fun z => e z.2), List.length_cons]
      have := go_len_one k c h hc n (b + 2) (by omega) (by omega) (by omega)
      omega
theorem coverB_cost {k : Bk} {c : Int} (hk : k.1 ≤ k.2) (h0 : 0 ≤ c) (h1 : c < numB k) : ((coverB k c).length : Int) = costB k := by
  unfold coverB costB
  by_cases e : (k.2 - k.1) % 2 = 0
  · unfold numB at h1
    rw [if_pos (by omega)] at h1
    rw [go_len_one k c e (by omega) _ _ (by omega) (by omega) (Nat.le_refl _)]
  · rw [go_len_none k c _ _ (.inl e) (by omega) (by omega) (Nat.le_refl _)]
    omega
theorem coverL_cost (bs : List Bk) (hb : ∀ k ∈ bs, k.1 ≤ k.2) (ix : Int) : ((coverL bs ix).length : Int) = (bs.map costB).sum := by
  have go : ∀ (l : List (Bk × Int)), (∀ kc ∈ l, kc.1.1 ≤ kc.1.2 ∧ 0 ≤ kc.2 ∧ kc.2 < numB kc.1) → ((l.flatMap fun kc => coverB kc.1 kc.2).length : Int) = (l.map fun kc => costB kc.1).sum := fun l => by
    induction l with
    | nil => intro _; rfl
    | cons kc l ih =>
      intro h
      have h1 := ih fun x hx => h x (List.mem_cons_of_mem _ hx)
      obtain ⟨a, b, c⟩ := h kc List.mem_cons_self
      have h2 := coverB_cost a b c
      rw [List.flatMap_cons, List.length_append, List.map_cons, List.sum_cons, ← h1, ← h2]
      omega
  have z : ∀ (bs : List Bk) (cs : List Int), cs.length = bs.length → ((bs.zip cs).map fun kc => costB kc.1) = bs.map costB := fun bs => by
    induction bs with
    | nil => intro _ _; rfl
    | cons b bs ih =>
      intro cs h
      cases cs with
      | nil => cases h
      | cons c cs => exact congrArg (costB b :: ·) (ih cs (by simpa using h))
  unfold coverL
  rw [go _ fun kc hk => by
    obtain ⟨a, b, c⟩ := choice_ok hb ix hk
    exact ⟨hb _ a, b, c⟩, z _ _ (by rw [List.length_reverse, chG_len]; simp)]
theorem best_len (ns ms : List Int) : ((bestL ns ms).length : Int) = costL ns ms := by
  have hb := blocks_le (bordersL ns ms)
  have ev := singles_even ns ms 0
  have tk : ∀ t ∈ coverL (blocksL (bordersL ns ms)) 0, t.length = 1 ∨ t.length = 2 := fun t ht => by
    obtain ⟨kc, _, h⟩ := List.mem_flatMap.mp ht
    exact coverGo_tok _ _ _ _ t h
  have tc := tok_count _ tk
  have cc := coverL_cost _ hb 0
  unfold bestL clicksL
  rw [List.length_append, pairs_even _ ev, List.length_map, tc, cc]
  rfl
end K76
set_option Elab.async false
set_option pp.maxSteps 1200
set_option linter.all false
set_option maxRecDepth 100000
set_option maxHeartbeats 4000000
namespace K76
open PySem L2 My
abbrev Mv := Bool × Nat
def anP : Option Nat → V
  | none => .non
  | some p => .int (p : Nat)
def MvR (K : PySem.W.Frag) (H : Hp) (v : V) (m : Mv) : Prop := ∃ q, v = .ref q ∧ SqT K H q [.str (wordC m.1), .int (m.2 : Nat)]
theorem MvR.keep {K : PySem.W.Frag} {H H' : Hp} {j : Addr} {v : V} {m : Mv} (e : Exj j H H') (n : NTup H j) : MvR K H v m → MvR K H' v m
  | ⟨q, h1, h2⟩ => ⟨q, h1, sqT_keep e n h2⟩
theorem MvR.ex {K : PySem.W.Frag} {H H' : Hp} {v : V} {m : Mv} (e : Ex H H') : MvR K H v m → MvR K H' v m
  | ⟨q, h1, h2⟩ => ⟨q, h1, sqT_exN e h2⟩
/-- a state: (flags, anchor) -/
def StP (K : PySem.W.Frag) (H : Hp) (v : V) (st : Sc) : Prop := ∃ q r, v = .ref q ∧ SqT K H q [.ref r, anP st.2] ∧ SqT K H r (st.1.map V.bl)
theorem StP.keep {K : PySem.W.Frag} {H H' : Hp} {j : Addr} {v : V} {st : Sc} (e : Exj j H H') (n : NTup H j) : StP K H v st → StP K H' v st
  | ⟨q, r, h1, h2, h3⟩ => ⟨q, r, h1, sqT_keep e n h2, sqT_keep e n h3⟩
theorem StP.ex {K : PySem.W.Frag} {H H' : Hp} {v : V} {st : Sc} (e : Ex H H') : StP K H v st → StP K H' v st
  | ⟨q, r, h1, h2, h3⟩ => ⟨q, r, h1, sqT_exN e h2, sqT_exN e h3⟩
theorem set_cut {f : List Bool} {p : Nat} {b : Bool} (h : p < f.length) : f.take p ++ [b] ++ f.drop (p + 1) = f.set p b := by
  rw [List.set_eq_take_append_cons_drop, if_pos h, List.append_assoc]
  rfl
theorem fill_cut {f : List Bool} {a p : Nat} (ha : a < f.length) (hp : p < f.length) : f.take (min a p) ++ List.replicate (max a p + 1 - min a p) (f.getD a false) ++ f.drop (max a p + 1) = fillC f a p := by
  refine flag_ext (n := f.length) ?_ ?_ fun i hi => ?_
  · simp only [List.length_append, List.length_take, List.length_replicate, List.length_drop]
    omega
  · unfold fillC
    rw [List.length_map, List.length_range]
  · rw [fill_getD hi, List.getD_eq_getElem?_getD]
    by_cases h1 : i < min a p
    · rw [List.getElem?_append_left (by simp only [List.length_append, List.length_take, List.length_replicate]; omega), List.getElem?_append_left (by rw [List.length_take]; omega), List.getElem?_take_of_lt h1, if_neg (by omega), List.getD_eq_getElem?_getD]
    · by_cases h2 : i ≤ max a p
      · rw [List.getElem?_append_left (by simp only [List.length_append, List.length_take, List.length_replicate]; omega), List.getElem?_append_right (by rw [List.length_take]; omega), List.getElem?_replicate, if_pos (by rw [List.length_take]; omega), if_pos (by omega)]
        rfl
      · rw [List.getElem?_append_right (by simp only [List.length_append, List.length_take, List.length_replicate]; omega), List.getElem?_drop, if_neg (by omega), List.getD_eq_getElem?_getD]
        congr 2
        simp only [List.length_append, List.length_take, List.length_replicate]
        omega
def sp_next_marks (K : PySem.W.Frag) : Sp := fun vs H Q _ => ∃ (r : Addr) (fl : List Bool) (a : Option Nat) (m : Mv), vs = [.ref r, anP a, .str (wordC m.1), .int (m.2 : Nat)] ∧ SqT K H r (fl.map V.bl) ∧ fl.length ≤ 900 ∧ (∀ p, a = some p → p < fl.length) ∧ m.2 < fl.length ∧
  ∀ v H', Ex H H' → StP K H' v (stepC (fl, a) m) → Q v H'
section
variable {w : World} {K : PySem.W.Frag} {mg : Str → Option Value} {base : Heap}
theorem ok_next_marks (T : Txt K mg) : FnOk PR w K mg base CX0 1 T.a_next_marks T.d_next_marks ["flags", "anchor", "word", "position"] (sp_next_marks K) := by
  refine T.f_next_marks.ok sc_next_marks (fun vs H Q E h => ?_) (fun cdv A0 outer s H vs Q E hr h => ?_)
  · obtain ⟨r, fl, a, m, rfl, _⟩ := h
    rfl
  · obtain ⟨r, fl, a, ⟨b, p⟩, rfl, hr0, ln, ha, hp, k⟩ := h
    have hp : p < fl.length := hp
    refine ⟨_, (pss_cons (ps_cut (ps_if (PW.pt (pw_and (pt_cmpR op_eq (pv 2) (pe_glob (v := .str "range") rfl T.g_RANGE ⟨_, rfl⟩) (nomark _)) (pw_and1 (pt_cmpR op_notN (pv 1) pe_non (nomark _))))) (pss_cons (ps_par (by rfl) sc_next_marks.nd rfl rfl (by decide) rfl rfl (i := 4) (j := 5) (pa_cons (pe_callB (call_min2 rfl) (by rfl) T.z_min (by decide +kernel) (pa_cons (pv 1) (pa_cons (pv 3) pa_nil))) (pa_cons (pe_callB (call_max2 rfl) (by rfl) T.z_max (by decide +kernel) (pa_cons (pv 1) (pa_cons (pv 3) pa_nil))) pa_nil)) (by rfl)) (pss_one (ps_ret (pe_tupG (pa_cons (pe_op op_catU (pe_op op_catU (pe_slice sl_tupU (pv 0) po_none (po_some (pv 4))) (pe_op op_repU (pe_tupG (pa_cons (pe_ix ix_tup (pv 0) (pv 1) (fun _ _ => rfl)) pa_nil)) (pe_op op_sub (pe_op op_add (pv 5) pe_int) (pv 4)))) (pe_slice sl_tupU (pv 0) (po_some (pe_op op_add (pv 5) pe_int)) po_none)) (pa_cons (pv 1) pa_nil)))))) pss_nil)) (pss_one (ps_ret (pe_tupG (pa_cons (pe_op op_catU (pe_op op_catU (pe_slice sl_tupU (pv 0) po_none (po_some (pv 3))) (pe_tupG (pa_cons (pe_not (pe_ix ix_tup (pv 0) (pv 3) (fun _ _ => rfl))) pa_nil))) (pe_slice sl_tupU (pv 0) (po_some (pe_op op_add (pv 3) pe_int)) po_none)) (pa_cons (pv 3) pa_nil)))))), ?_⟩
    have gat : ∀ {i : Nat}, i < fl.length → atI (fl.map V.bl) ((i : Nat) : Int) = some (.bl (fl.getD i false)) := fun {i} hi => atI_nat (j := i) (by rw [List.getElem?_map, List.getElem?_eq_getElem hi, List.getD_eq_getElem?_getD, List.getElem?_eq_getElem hi]; rfl)
    refine ⟨fun σ' H' => σ' = [some (.ref r), some (anP a), some (.str (wordC b)), some (.int (p : Nat)), none, none] ∧ H = H' ∧ stepC (fl, a) (b, p) = (fl.set p (!fl.getD p false), some p), ?_, ?_⟩
    · refine ⟨_, rfl, rfl, _, rfl, ?_⟩
      cases b with
      | false =>
        refine ifF (show decide (V.str (wordC false) = V.str ("range" : Str)) = false by decide) ⟨rfl, rfl, ?_⟩
        unfold stepC
        rw [if_neg (fun z => Bool.noConfusion z.1)]
      | true =>
        refine ifT (show decide (V.str (wordC true) = V.str ("range" : Str)) = true by decide) ?_
        cases a with
        | none =>
          refine ⟨_, rfl, rfl, _, rfl, ifF rfl ⟨rfl, rfl, ?_⟩⟩
          unfold stepC
          rw [if_neg (fun z => Bool.noConfusion z.2)]
        | some q =>
          have hq := ha q rfl
          refine ⟨_, rfl, rfl, _, rfl, ifT rfl ?_⟩
          refine ⟨_, rfl, _, rfl, _, _, rfl, _, rfl, _, rfl, _, _, rfl, _, _, rfl, ?_⟩
          have e1 : (if ((p : Nat) : Int) < ((q : Nat) : Int) then ((p : Nat) : Int) else ((q : Nat) : Int)) = ((min q p : Nat) : Int) := by split <;> omega
          have e2 : (if ((p : Nat) : Int) > ((q : Nat) : Int) then ((p : Nat) : Int) else ((q : Nat) : Int)) = ((max q p : Nat) : Int) := by split <;> omega
          rw [e1, e2]
          refine ⟨_, rfl, _, rfl, _, rfl, r, _, rfl, hr0, fun t1 H1 x1 h1 => ?_⟩
          rw [cut_to] at h1
          refine ⟨_, rfl, _, rfl, r, _, _, _, rfl, rfl, sqT_exN x1 hr0, gat hq, (by show 1 ≤ sizeLine; decide), fun t2 H2 n2 x2 h2 => ?_⟩
          refine ⟨_, rfl, _, _, rfl, rfl, _, rfl, _, _, rfl, rfl, ?_⟩
          have e3 : ((max q p : Nat) : Int) + 1 - ((min q p : Nat) : Int) = ((max q p + 1 - min q p : Nat) : Int) := by omega
          refine ⟨t2, _, [V.bl (fl.getD q false)], rfl, rfl, sqT h2, by simp, by omega, by omega, by show 1 ≤ 1000; decide, fun t3 H3 x3 h3 => ?_⟩
          have x13 := x2.trans x3
          refine ⟨_, _, _, _, rfl, rfl, sqT_exN x13 h1, h3, ?_, fun t4 H4 x4 h4 => ?_⟩
          · simp only [List.length_take, List.length_map, List.length_flatten, List.length_replicate, List.map_replicate, List.sum_replicate_nat, List.length_cons, List.length_nil]
            exact Nat.le_trans (show _ ≤ 2000 by omega) (by decide)
          have x14 := x13.trans x4
          refine ⟨_, rfl, _, rfl, _, _, rfl, rfl, _, rfl, r, _, rfl, sqT_exN (x1.trans x14) hr0, fun t5 H5 x5 h5 => ?_⟩
          rw [show ((max q p : Nat) : Int) + 1 = ((max q p + 1 : Nat) : Int) by omega, cut_from] at h5
          have efl : (List.replicate (((max q p + 1 - min q p : Nat) : Int)).toNat [V.bl (fl.getD q false)]).flatten = (List.replicate (max q p + 1 - min q p) (fl.getD q false)).map V.bl := by
            rw [show (((max q p + 1 - min q p : Nat) : Int)).toNat = max q p + 1 - min q p by omega, List.map_replicate]
            induction (max q p + 1 - min q p) with
            | zero => rfl
            | succ m ih => rw [List.replicate_succ, List.replicate_succ, List.flatten_cons, ih]; rfl
          rw [e3] at h4
          rw [efl] at h4
          refine ⟨_, _, _, _, rfl, rfl, sqT_exN x5 h4, h5, ?_, fun t6 H6 x6 h6 => ?_⟩
          · simp only [List.length_append, List.length_take, List.length_map, List.length_replicate, List.length_drop]
            exact Nat.le_trans (show _ ≤ 5000 by omega) (by decide)
          refine ⟨_, rfl, (by show 2 ≤ sizeLine; decide), fun q7 H7 n7 x7 h7 => ?_⟩
          have es : stepC (fl, some q) (true, p) = (fillC fl q p, some q) := by
            unfold stepC
            rw [if_pos ⟨rfl, rfl⟩]
            rfl
          refine k (.ref q7) H7 (x1.trans (x14.trans (x5.trans (x6.trans x7)))) ⟨q7, t6, rfl, by rw [es]; exact sqT h7, ?_⟩
          rw [es]
          show SqT K H7 t6 ((fillC fl q p).map V.bl)
          rw [← fill_cut hq hp, List.map_append, List.map_append, List.map_take, List.map_drop]
          exact sqT_exN x7 h6
    · rintro σ' H' ⟨rfl, rfl, e⟩
      refine ⟨_, rfl, _, rfl, _, rfl, r, _, rfl, hr0, fun t1 H1 x1 h1 => ?_⟩
      rw [cut_to] at h1
      refine ⟨_, rfl, _, rfl, r, _, _, _, rfl, rfl, sqT_exN x1 hr0, gat hp, _, rfl, (by show 1 ≤ sizeLine; decide), fun t2 H2 n2 x2 h2 => ?_⟩
      refine ⟨_, _, _, _, rfl, rfl, sqT_exN x2 h1, sqT h2, ?_, fun t3 H3 x3 h3 => ?_⟩
      · rw [List.length_take, List.length_map]
        exact Nat.le_trans (show min p fl.length + 1 ≤ 1000 by omega) (by decide)
      have x13 := x2.trans x3
      refine ⟨_, rfl, _, rfl, _, _, rfl, rfl, _, rfl, r, _, rfl, sqT_exN (x1.trans x13) hr0, fun t4 H4 x4 h4 => ?_⟩
      rw [show ((p : Nat) : Int) + 1 = ((p + 1 : Nat) : Int) by omega, cut_from] at h4
      refine ⟨_, _, _, _, rfl, rfl, sqT_exN x4 h3, h4, ?_, fun t6 H6 x6 h6 => ?_⟩
      · simp only [List.length_append, List.length_take, List.length_map, List.length_drop, List.length_cons, List.length_nil]
        exact Nat.le_trans (show _ ≤ 5000 by omega) (by decide)
      refine ⟨_, rfl, (by show 2 ≤ sizeLine; decide), fun q7 H7 n7 x7 h7 => ?_⟩
      refine k (.ref q7) H7 (x1.trans (x13.trans (x4.trans (x6.trans x7)))) ⟨q7, t6, rfl, by rw [e]; exact sqT h7, ?_⟩
      rw [e]
      show SqT K H7 t6 ((fl.set p (!fl.getD p false)).map V.bl)
      rw [← set_cut hp, List.map_append, List.map_append, List.map_take, List.map_drop]
      exact sqT_exN x7 h6
end
end K76
set_option Elab.async false
set_option pp.maxSteps 1200
set_option linter.all false
set_option maxRecDepth 100000
set_option maxHeartbeats 4000000
namespace K76
open PySem L2 My Bfs
def keyB (b : Bool) : NestedKey := .num (if b = true then 1 else 0)
def keyP : Option Nat → NestedKey
  | none => .none
  | some p => .num (p : Nat)
def keyC (st : Sc) : NestedKey := .tup [.tup (st.1.map keyB), keyP st.2]
theorem keyB_inj : ∀ {a b : List Bool}, a.map keyB = b.map keyB → a = b
  | [], [], _ => rfl
  | [], _ :: _, e => by simp at e
  | _ :: _, [], e => by simp at e
  | x :: xs, y :: ys, e => by
    rw [List.map_cons, List.map_cons] at e
    injection e with e1 e2
    rw [keyB_inj e2]
    congr 1
    unfold keyB at e1
    injection e1 with e1
    cases x <;> cases y <;> simp_all
theorem keyC_inj {s t : Sc} (e : keyC s = keyC t) : s = t := by
  obtain ⟨f, a⟩ := s
  obtain ⟨g, b⟩ := t
  unfold keyC at e
  injection e with e
  injection e with e1 e2
  injection e1 with e1
  injection e2 with e2 _
  refine Prod.ext (keyB_inj e1) ?_
  have e2 : keyP a = keyP b := e2
  show a = b
  cases a with
  | none =>
    cases b with
    | none => rfl
    | some q => exact absurd e2 (fun z => NestedKey.noConfusion z)
  | some p =>
    cases b with
    | none => exact absurd e2 (fun z => NestedKey.noConfusion z)
    | some q =>
      have e2 : NestedKey.num (p : Nat) = NestedKey.num (q : Nat) := e2
      injection e2 with e2
      rw [Int.ofNat.inj e2]
theorem keyB_depth : ∀ l : List Bool, NestedKey.depthAll (l.map keyB) = 0
  | [] => rfl
  | x :: l => by
    show max 0 (NestedKey.depthAll (l.map keyB)) = 0
    rw [keyB_depth l]
    rfl
theorem keyC_depth (st : Sc) : (keyC st).depth ≤ 8 := by
  show max (NestedKey.depthAll (st.1.map keyB) + 1) (max (keyP st.2).depth 0) + 1 ≤ 8
  rw [keyB_depth]
  have : (keyP st.2).depth = 0 := by
    cases st.2 <;> rfl
  rw [this]
  decide
theorem nis_p {K : PySem.W.Frag} {H : Hp} (a : Option Nat) : NIs true K H (keyP a) (anP a) := by
  cases a with
  | none => exact .none
  | some p => exact .num _
theorem nis_c {K : PySem.W.Frag} {H : Hp} {v : V} {st : Sc} (h : StP K H v st) : ∃ q, v = .ref q ∧ NIs true K H (keyC st) (.ref q) := by
  obtain ⟨q, r, rfl, h1, h2⟩ := h
  exact ⟨q, rfl, .tup h1 (.cons (.tup h2 (NAll.bools _)) (.cons (nis_p _) .nil))⟩
def KvR (kvs : List (NestedKey × V)) (f : List (Sc × List Mv)) : Prop := kvs.map (·.1) = f.map fun q => keyC q.1
theorem kv_some {s : Sc} : ∀ {kvs : List (NestedKey × V)} {f : List (Sc × List Mv)}, KvR kvs f → (valV kvs (keyC s)).isSome = (getP f s).isSome
  | [], [], _ => rfl
  | [], _ :: _, h => by simp [KvR] at h
  | _ :: _, [], h => by simp [KvR] at h
  | kv :: kvs, q :: f, h => by
    unfold KvR at h
    rw [List.map_cons, List.map_cons] at h
    injection h with h1 h2
    by_cases e : q.1 = s
    · have g : getP (q :: f) s = some q.2 := by
        unfold getP
        rw [List.find?_cons_of_pos (by simp [e])]
        rfl
      rw [g, valV_pos (by rw [h1, e])]
      rfl
    · have g : getP (q :: f) s = getP f s := by
        unfold getP
        rw [List.find?_cons_of_neg (by simp [e])]
      rw [g, valV_neg (fun z => e (keyC_inj (by rw [← h1, z]))), kv_some h2]
theorem kv_len {kvs : List (NestedKey × V)} {f : List (Sc × List Mv)} (h : KvR kvs f) : kvs.length = f.length := by
  have := congrArg List.length h
  simpa using this
theorem moves_len (n : Nat) : (movesC n).length = 2 * n := by
  unfold movesC
  rw [List.length_append, List.length_map, List.length_map, List.length_range]
  omega
theorem moves_at {n j i : Nat} (hj : j < 2) (hi : i < n) : (movesC n)[j * n + i]? = some (decide (j = 1), i) := by
  unfold movesC
  rcases (show j = 0 ∨ j = 1 by omega) with z | z
  · subst z
    rw [List.getElem?_append_left (by rw [List.length_map, List.length_range]; omega), List.getElem?_map, show 0 * n + i = i by omega, List.getElem?_range hi]
    rfl
  · subst z
    rw [List.getElem?_append_right (by rw [List.length_map, List.length_range]; omega), List.getElem?_map, List.length_map, List.length_range, show 1 * n + i - n = i by omega, List.getElem?_range hi]
    rfl
abbrev En := Sc × List Mv
def EnR (K : PySem.W.Frag) (L : Addr) (H : Hp) (v : V) (e : En) : Prop := ∃ q sv wq us, v = .ref q ∧ SqT K H q [sv, .ref wq] ∧ StP K H sv e.1 ∧ wq ≠ L ∧ H wq = some (.lst us) ∧ AllR (MvR K H) us e.2
theorem EnR.ex {K : PySem.W.Frag} {L : Addr} {H H' : Hp} {v : V} {e : En} (x : Ex H H') : EnR K L H v e → EnR K L H' v e
  | ⟨q, sv, wq, us, h1, h2, h3, h4, h5, h6⟩ => ⟨q, sv, wq, us, h1, sqT_exN x h2, h3.ex x, h4, x _ _ h5, h6.mono fun v m r => r.ex x⟩
theorem EnR.to {K : PySem.W.Frag} {L L' : Addr} {H H' : Hp} {v : V} {e : En} (n : H L' = none) (x : Ex H H') : EnR K L H v e → EnR K L' H' v e
  | ⟨q, sv, wq, us, h1, h2, h3, h4, h5, h6⟩ => ⟨q, sv, wq, us, h1, sqT_exN x h2, h3.ex x, ne_of_none h5 n, x _ _ h5, h6.mono fun v m r => r.ex x⟩
theorem EnR.keepL {K : PySem.W.Frag} {L : Addr} {H H' : Hp} {v : V} {e : En} (x : Exj L H H') (n : NTup H L) : EnR K L H v e → EnR K L H' v e
  | ⟨q, sv, wq, us, h1, h2, h3, h4, h5, h6⟩ => ⟨q, sv, wq, us, h1, sqT_keep x n h2, h3.keep x n, h4, x _ _ h4 h5, h6.mono fun v m r => r.keep x n⟩
theorem EnR.keepS {K : PySem.W.Frag} {L S : Addr} {H H' : Hp} {v : V} {e : En} (x : Exj S H H') (n : NTup H S) (nl : ∀ a xs, H a = some (.lst xs) → a ≠ S) : EnR K L H v e → EnR K L H' v e
  | ⟨q, sv, wq, us, h1, h2, h3, h4, h5, h6⟩ => ⟨q, sv, wq, us, h1, sqT_keep x n h2, h3.keep x n, h4, x _ _ (nl _ _ h5) h5, h6.mono fun v m r => r.keep x n⟩
structure FB (K : PySem.W.Frag) (W : World) (n : Nat) (S L : Addr) (H' : Hp) (B N : Nat) (b : Bs Sc Mv) (la : List En) (ly : List En) : Prop where
  d : ∃ kvs, IsDN true K W H' S kvs ∧ KvR kvs b.found
  l : ∃ us, H' L = some (.lst us) ∧ AllR (EnR K L H') us la
  eq : la.map (·.1) = b.later
  get : ∀ e ∈ la, getP b.found e.1 = some e.2
  vs : ∀ e ∈ la, VS n e.1
  ln : ∀ e ∈ la, e.2.length ≤ N
  n1 : b.found.length ≤ B
  n2 : b.later.length ≤ B
  lay : ∀ e ∈ ly, getP b.found e.1 = some e.2
theorem FB.ex {K : PySem.W.Frag} {W : World} {n : Nat} {S L : Addr} {H H' : Hp} {B N : Nat} {b : Bs Sc Mv} {la ly : List En} (e : Ex H H') (h : FB K W n S L H B N b la ly) : FB K W n S L H' B N b la ly := by
  obtain ⟨kvs, d1, d2⟩ := h.d
  obtain ⟨us, l1, l2⟩ := h.l
  exact ⟨⟨kvs, d1.ex e, d2⟩, ⟨us, e _ _ l1, l2.mono fun v x r => r.ex e⟩, h.eq, h.get, h.vs, h.ln, h.n1, h.n2, h.lay⟩
theorem FB.mono {K : PySem.W.Frag} {W : World} {n : Nat} {S L : Addr} {H : Hp} {B B' N : Nat} {b : Bs Sc Mv} {la ly : List En} (e : B ≤ B') (h : FB K W n S L H B N b la ly) : FB K W n S L H B' N b la ly :=
  ⟨h.d, h.l, h.eq, h.get, h.vs, h.ln, Nat.le_trans h.n1 e, Nat.le_trans h.n2 e, h.lay⟩
end K76
set_option Elab.async false
set_option pp.maxSteps 1200
set_option linter.all false
set_option maxRecDepth 100000
set_option maxHeartbeats 4000000
namespace K76
open PySem L2 My Bfs
def eM (m : Mv) : PyData := .tuple [.str (wordC m.1), .int (m.2 : Nat)]
theorem word_lay (b : Bool) : PyData.canLay0 (.str (wordC b)) = true := by cases b <;> decide +kernel
theorem word_eq (a b : Bool) : PyData.eqv (.str (wordC a)) (.str (wordC b)) = decide (a = b) := by cases a <;> cases b <;> decide +kernel
theorem goodM : Good eM 1 := ⟨fun m => by
    show (PyData.canLay0 (.str (wordC m.1)) && (PyData.canLay0 (.int (m.2 : Nat)) && true)) = true
    rw [word_lay]
    rfl, fun m => Nat.le_refl _, fun x y => by
    show (PyData.eqv (.str (wordC x.1)) (.str (wordC y.1)) && (PyData.eqv (.int (x.2 : Nat)) (.int (y.2 : Nat)) && true)) = _
    rw [word_eq, goodI.eqv, Bool.eq_iff_iff]
    obtain ⟨a, p⟩ := x
    obtain ⟨b, q⟩ := y
    have h : ((p : Nat) : Int) = ((q : Nat) : Int) ↔ p = q := by omega
    simp [h]⟩
def eA : Option Nat → PyData
  | none => .none
  | some p => .int (p : Nat)
theorem goodA : Good eA 0 := ⟨fun a => by cases a <;> rfl, fun a => by cases a <;> exact Nat.le_refl _, fun a b => by
  cases a with
  | none => cases b <;> rfl
  | some p =>
    cases b with
    | none => rfl
    | some q =>
      show PyData.eqv (.int (p : Nat)) (.int (q : Nat)) = _
      rw [goodI.eqv, Bool.eq_iff_iff]
      have h : ((p : Nat) : Int) = ((q : Nat) : Int) ↔ p = q := by omega
      simp [h]⟩
theorem goodU {α : Type} [DecidableEq α] {e : α → PyData} {n m : Nat} (g : Good e n) (h : n ≤ m) : Good e m := ⟨g.lay, fun x => Nat.le_trans (g.dep x) h, g.eqv⟩
abbrev eSt : Sc → PyData := eP (eT PyData.bool) eA
theorem goodSt : Good eSt 2 := goodP (goodT goodB) (goodU goodA (by decide))
abbrev eEn : En → PyData := eP eSt (eL eM)
theorem goodEn : Good eEn 3 := goodP goodSt (goodL goodM)
theorem dpB {K : PySem.W.Frag} {H : Hp} : ∀ (l : List Bool), DpAll K H (l.map V.bl) (l.map PyData.bool)
  | [] => .nil
  | b :: l => .cons (.bl b) (dpB l)
theorem StP.dp {K : PySem.W.Frag} {H : Hp} {v : V} {st : Sc} (h : StP K H v st) : Dp K H v (eSt st) := by
  obtain ⟨q, r, rfl, h1, h2⟩ := h
  refine .tup h1 (.cons (.tup h2 (dpB _)) (.cons ?_ .nil))
  cases st.2 with
  | none => exact .non
  | some p => exact .int _
theorem MvR.dp {K : PySem.W.Frag} {H : Hp} {v : V} {m : Mv} (h : MvR K H v m) : Dp K H v (eM m) := by
  obtain ⟨q, rfl, h⟩ := h
  exact .tup h (.cons (.str _) (.cons (.int _) .nil))
theorem mvs_dp {K : PySem.W.Frag} {H : Hp} {a : Addr} {us : List V} {p : List Mv} (h : SqL K H a us) (r : AllR (MvR K H) us p) : Dp K H (.ref a) (eL eM p) := .lst h (r.dp fun _ _ z => z.dp)
theorem EnR.dp {K : PySem.W.Frag} {L : Addr} {H : Hp} {v : V} {e : En} (h : EnR K L H v e) : Dp K H v (eEn e) := by
  obtain ⟨q, sv, wq, us, rfl, h2, h3, h4, h5, h6⟩ := h
  exact .tup h2 (.cons h3.dp (.cons (mvs_dp (sqI h5) h6) .nil))
def leads (s : Sc) (g : List Bool) (p : List Mv) : Prop := (p.foldl stepC s).1 = g
def sp_first_list (K : PySem.W.Frag) (w : World) : Sp := fun vs H Q _ => ∃ (f g : Addr) (fl gl : List Bool) (a : Option Nat) (p0 : List Mv), vs = [.ref f, anP a, .ref g] ∧ SqT K H f (fl.map V.bl) ∧ SqT K H g (gl.map V.bl) ∧ fl.length ≤ 5 ∧ (∀ p, a = some p → p < fl.length) ∧
  (∀ m ∈ p0, m ∈ movesC fl.length) ∧ p0.length ≤ 5 ∧ leads (fl, a) gl p0 ∧
  ∀ q H' us p, Ex H H' → H' q = some (.lst us) → AllR (MvR K H') us p → leads (fl, a) gl p → (∀ m ∈ p, m ∈ movesC fl.length) → (∀ p', (∀ m ∈ p', m ∈ movesC fl.length) → leads (fl, a) gl p' → p.length ≤ p'.length) → Q (.ref q) H'
/-- the goal is in no layer ahead -/
def Not (n : Nat) (s : Sc) (g : List Bool) (k : Nat) : Prop := ∀ t p, getP (bfsB stepC (movesC n) s k).found t = some p → p.length < k → t.1 ≠ g
theorem not_least {n : Nat} {s : Sc} {g : List Bool} {k : Nat} (h : Not n s g k) {p : List Mv} (hp : ∀ m ∈ p, m ∈ movesC n) (hl : leads s g p) : k ≤ p.length := by
  refine Nat.le_of_not_lt fun z => ?_
  obtain ⟨q, h1, h2⟩ := (Inv.bfs (step := stepC) (moves := movesC n) s k).all p hp (by omega)
  exact h _ q h1 (by omega) hl
theorem not_here {n : Nat} {s : Sc} {g : List Bool} {k : Nat} (h : Not n s g k) {p : List Mv} (hp : ∀ m ∈ p, m ∈ movesC n) (hl : leads s g p) (hk : p.length ≤ k) : ∃ t ∈ (bfsB stepC (movesC n) s k).later, t.1 = g := by
  have I := Inv.bfs (step := stepC) (moves := movesC n) s k
  obtain ⟨q, h1, h2⟩ := I.all p hp hk
  have := (I.way _ _ h1).2.1
  refine ⟨_, (I.last _).mpr ⟨q, h1, ?_⟩, hl⟩
  have : ¬ q.length < k := fun z => h _ q h1 z hl
  omega
theorem not_next {n : Nat} {s : Sc} {g : List Bool} {k : Nat} (h : Not n s g k) (hl : ∀ t ∈ (bfsB stepC (movesC n) s k).later, t.1 ≠ g) : Not n s g (k + 1) := by
  intro t p h1 h2 e
  have I := Inv.bfs (step := stepC) (moves := movesC n) s k
  have J := Inv.bfs (step := stepC) (moves := movesC n) s (k + 1)
  obtain ⟨j1, _, j3⟩ := J.way _ _ h1
  obtain ⟨q, i1, i2⟩ := I.all p j3 (by omega)
  rw [j1] at i1
  by_cases z : q.length < k
  · exact h _ q i1 z e
  · have := (I.way _ _ i1).2.1
    exact hl t ((I.last t).mpr ⟨q, i1, by omega⟩) e
/-- a layer that is empty stays so -/
theorem later_nil {n : Nat} {s : Sc} {k : Nat} (h : (bfsB stepC (movesC n) s k).later = []) : ∀ j, bfsB stepC (movesC n) s (k + j) = bfsB stepC (movesC n) s k
  | 0 => rfl
  | j + 1 => by
    show layerB stepC (movesC n) (bfsB stepC (movesC n) s (k + j)) = _
    rw [later_nil h j]
    obtain ⟨b, hb⟩ : ∃ b, b = bfsB stepC (movesC n) s k := ⟨_, rfl⟩
    rw [← hb] at h ⊢
    unfold layerB
    rw [h]
    show Bs.mk b.found [] = b
    rw [← h]
theorem later_ne {n : Nat} {s : Sc} {g : List Bool} {k : Nat} (h : Not n s g k) {p : List Mv} (hp : ∀ m ∈ p, m ∈ movesC n) (hl : leads s g p) : (bfsB stepC (movesC n) s k).later ≠ [] := by
  intro z
  by_cases c : p.length ≤ k
  · obtain ⟨t, ht, _⟩ := not_here h hp hl c
    rw [z] at ht
    exact nomatch ht
  · have e := later_nil z (p.length - k)
    rw [show k + (p.length - k) = p.length by omega] at e
    obtain ⟨q, h1, _⟩ := (Inv.bfs (step := stepC) (moves := movesC n) s p.length).all p hp (Nat.le_refl _)
    rw [e] at h1
    have I := Inv.bfs (step := stepC) (moves := movesC n) s k
    have := (I.way _ _ h1).2.1
    have n2 : ¬ q.length < k := fun y => h _ q h1 y hl
    have := (I.last _).mpr ⟨q, h1, by omega⟩
    rw [z] at this
    exact nomatch this
theorem vs_step {n : Nat} {st : Sc} (v : VS n st) {m : Mv} (h : m.2 < n) : VS n (stepC st m) := by
  unfold stepC
  by_cases c : m.1 = true ∧ st.2.isSome = true
  · rw [if_pos c]
    exact ⟨by show (fillC _ _ _).length = n; unfold fillC; rw [List.length_map, List.length_range]; exact v.len, v.anc⟩
  · rw [if_neg c]
    exact ⟨by show (st.1.set _ _).length = n; rw [List.length_set]; exact v.len, fun p hp => by cases hp; exact h⟩
end K76
set_option Elab.async false
set_option pp.maxSteps 1200
set_option linter.all false
set_option maxRecDepth 100000
set_option maxHeartbeats 4000000
namespace K76
open PySem L2 My Bfs
structure Src (K : PySem.W.Frag) (L : Addr) (H : Hp) (sv : V) (wq : Addr) (us : List V) (e : En) : Prop where
  st : StP K H sv e.1
  n : wq ≠ L
  w : H wq = some (.lst us)
  r : AllR (MvR K H) us e.2
theorem Src.ex {K : PySem.W.Frag} {L : Addr} {H H' : Hp} {sv : V} {wq : Addr} {us : List V} {e : En} (x : Ex H H') (h : Src K L H sv wq us e) : Src K L H' sv wq us e := ⟨h.st.ex x, h.n, x _ _ h.w, h.r.mono fun v m r => r.ex x⟩
section
variable {w : World} {K : PySem.W.Frag} {mg : Str → Option Value} {base : Heap}
theorem ok_first_list (T : Txt K mg) : FnOk PR w K mg base CX0 2 T.a_first_list T.d_first_list ["flags", "anchor", "goal"] (sp_first_list K w) := by
  refine T.f_first_list.ok sc_first_list (fun vs H Q E h => ?_) (fun cdv A0 outer s0 H vs Q E hr h => ?_)
  · obtain ⟨f, g, fl, gl, a, p0, rfl, _⟩ := h
    rfl
  · obtain ⟨f, g, fl, gl, a, p0, rfl, hf, hg, n5, ha, hp0, lp0, ld0, k⟩ := h
    refine ⟨_, (pss_cons (ps_set (i := 3) sc_first_list.nd rfl (by first | exact Or.inl rfl | exact Or.inr rfl) (pe_lstG (pa_cons (pe_tupG (pa_cons (pe_tupG (pa_cons (pv 0) (pa_cons (pv 1) pa_nil))) (pa_cons (pe_lstG pa_nil) pa_nil))) pa_nil))) (pss_cons (ps_set (i := 4) sc_first_list.nd rfl (by first | exact Or.inl rfl | exact Or.inr rfl) (pe_ndisp1 hr.units (pe_tupG (pa_cons (pv 0) (pa_cons (pv 1) pa_nil))) pe_bl)) (pss_cons (ps_while PassesOwn.never (pt_cmpR (op_neD hr.units) (pv 3) (pe_lstG pa_nil) (nomark _)) (pss_cons (ps_for PassesOwn.never rfl (pi_list (pv 3)) (pg_tup rfl (pgs_cons (pg_name (i := 5) sc_first_list.nd rfl (by first | exact Or.inl rfl | exact Or.inr rfl)) (pgs_cons (pg_name (i := 6) sc_first_list.nd rfl (by first | exact Or.inl rfl | exact Or.inr rfl)) pgs_nil))) (pss_one (ps_if (pt_cmpR (op_eqD hr.units) (pe_ix ix_tup (pv 5) pe_int (fun _ _ => rfl)) (pv 2) (nomark _)) (pss_one (ps_ret (pv 6))) pss_nil))) (pss_cons (ps_set (i := 7) sc_first_list.nd rfl (by first | exact Or.inl rfl | exact Or.inr rfl) (pe_lstG pa_nil)) (pss_cons (ps_for PassesOwn.never rfl (pi_list (pv 3)) (pg_tup rfl (pgs_cons (pg_name (i := 5) sc_first_list.nd rfl (by first | exact Or.inl rfl | exact Or.inr rfl)) (pgs_cons (pg_name (i := 6) sc_first_list.nd rfl (by first | exact Or.inl rfl | exact Or.inr rfl)) pgs_nil))) (pss_one (ps_for PassesOwn.never rfl (pi_tup (pe_tupG (pa_cons (pe_glob (v := .str "click") rfl T.g_CLICK ⟨_, rfl⟩) (pa_cons (pe_glob (v := .str "range") rfl T.g_RANGE ⟨_, rfl⟩) pa_nil)))) (pg_name (i := 8) sc_first_list.nd rfl (by first | exact Or.inl rfl | exact Or.inr rfl)) (pss_one (ps_for PassesOwn.never rfl (pi_range1 (by rfl) T.z_range (pa_cons (pe_callB call_len_seq (by rfl) T.z_len PySem.boot_len (pa_cons (pv 0) pa_nil)) pa_nil)) (pg_name (i := 9) sc_first_list.nd rfl (by first | exact Or.inl rfl | exact Or.inr rfl)) (pss_cons (ps_set (i := 10) sc_first_list.nd rfl (by first | exact Or.inl rfl | exact Or.inr rfl) (pe_call (ok_next_marks T) (hr.mono (by decide)) (by rfl) T.g_next_marks T.f_next_marks.kp (b_next_marks T) .nil pass0 (pa_cons (pe_ix ix_tup (pv 5) pe_int (fun _ _ => rfl)) (pa_cons (pe_ix ix_tup (pv 5) pe_int (fun _ _ => rfl)) (pa_cons (pv 8) (pa_cons (pv 9) pa_nil)))))) (pss_one (ps_if (pt_cmp (pc_nnotin hr.units (pv 10) (pv 4))) (pss_cons (ps_nput hr.units (pv 4) (pv 10) pe_bl rfl) (pss_one (ps_expr (pe_bm PySem.F.plainAttrs_list PySem.F.slot_list_append PySem.F.type_list_append mt_append (pv 7) (pa_cons (pe_tupG (pa_cons (pv 10) (pa_cons (pe_lstG (StX.pa_star (pv 6) (pa_cons (pe_tupG (pa_cons (pv 8) (pa_cons (pv 9) pa_nil))) pa_nil))) pa_nil))) pa_nil))))) pss_nil)))))))) (pss_one (ps_set (i := 3) sc_first_list.nd rfl (by first | exact Or.inl rfl | exact Or.inr rfl) (pv 7))))))) (pss_one (ps_ret pe_non))))), ?_⟩
    obtain ⟨n, hn⟩ : ∃ n, n = fl.length := ⟨_, rfl⟩
    obtain ⟨s, hs⟩ : ∃ s : Sc, s = (fl, a) := ⟨_, rfl⟩
    rw [← hn] at n5 ha hp0
    rw [← hs] at ld0
    have v0 : VS n s := by rw [hs]; exact ⟨hn.symm, ha⟩
    -- layer
    refine ⟨_, rfl, _, rfl, (by show 2 ≤ sizeLine; decide), fun p1 H1 n1 e1 h1 => ?_⟩
    refine ⟨(by show 0 ≤ sizeLine; decide), fun p2 H2 n2 e2 h2 => ?_⟩
    refine ⟨(by show 2 ≤ sizeLine; decide), fun p3 H3 n3 e3 h3 => ?_⟩
    refine ⟨(by show 1 ≤ sizeLine; decide), fun Y0 H4 nY0 e4 hY0 => ?_⟩
    have e04 := e1.trans (e2.trans (e3.trans e4))
    have st4 : StP K H4 (.ref p1) s := by
      rw [hs]
      exact ⟨p1, f, rfl, sqT ((e2.trans (e3.trans e4)) _ _ h1), sqT_exN e04 hf⟩
    have en4 : EnR K Y0 H4 (.ref p3) (s, []) := ⟨p3, .ref p1, p2, [], rfl, sqT (e4 _ _ h3), st4, ne_of_none (e3 _ _ h2) nY0, (e3.trans e4) _ _ h2, AllR.nil⟩
    -- seen
    refine fun S H5 nS e5 h5 => ?_
    refine ⟨_, rfl, _, rfl, (by show 2 ≤ sizeLine; decide), fun p6 H6 n6 e6 h6 => ?_⟩
    have e46 := e5.trans e6
    have e06 := e04.trans e46
    have st6 : StP K H6 (.ref p6) s := by
      rw [hs]
      exact ⟨p6, f, rfl, sqT h6, sqT_exN e06 hf⟩
    obtain ⟨q0, eq0, nk⟩ := nis_c st6
    have eq0 : p6 = q0 := by injection eq0
    subst eq0
    refine ⟨e6 _ _ h5, _, p6, true, rfl, nk, keyC_depth _, fun H7 x7 d7' => ?_⟩
    have d7 : IsDN true K w H7 S [(keyC s, V.bl true)] := d7'
    have nS0 : H S = none := none_of e04 nS
    have e07 : Ex H H7 := fun b o hb => x7 _ _ (ne_of_none hb nS0) (e06 _ _ hb)
    have e47 : Ex H4 H7 := fun b o hb => x7 _ _ (ne_of_none hb nS) (e46 _ _ hb)
    have fb0 : FB K w n S Y0 H7 (11 ^ 0) 0 (bfsB stepC (movesC n) s 0) [(s, [])] [] := by
      refine ⟨⟨_, d7, rfl⟩, ⟨_, e47 _ _ hY0, AllR.one (en4.ex e47)⟩, rfl, fun e he => ?_, fun e he => ?_, fun e he => ?_, Nat.le_refl _, Nat.le_refl _, fun e he => nomatch he⟩
      · rw [List.mem_singleton.mp he]
        show (List.find? _ [(s, [])]).map _ = _
        rw [List.find?_cons_of_pos (by simp)]
        rfl
      · rw [List.mem_singleton.mp he]
        exact v0
      · rw [List.mem_singleton.mp he]
        exact Nat.le_refl _
    have not0 : Not n s gl 0 := fun t p _ z => absurd z (by omega)
    -- while
    refine ⟨fun m σ H' => ∃ i Y la v5 v6 v7 v8 v9 v10, σ = [some (.ref f), some (anP a), some (.ref g), some (.ref Y), some (.ref S), v5, v6, v7, v8, v9, v10] ∧ Ex H H' ∧ i ≤ p0.length ∧ m = p0.length + 1 - i ∧ Not n s gl i ∧ FB K w n S Y H' (11 ^ i) i (bfsB stepC (movesC n) s i) la [], ⟨_, 0, Y0, _, _, _, _, _, _, _, rfl, e07, Nat.zero_le _, rfl, not0, fb0⟩, ?_⟩
    rintro m σ H8 ⟨i, Y, la, v5, v6, v7, v8, v9, v10, rfl, e8, il, rfl, nt, fb⟩
    obtain ⟨yu, hy8, yr8⟩ := fb.l
    have p11 : 11 ^ i ≤ 161051 := Nat.le_trans (Nat.pow_le_pow_right (by decide) (show i ≤ 5 by omega)) (by decide)
    obtain ⟨b0, hb0⟩ : ∃ b0, b0 = bfsB stepC (movesC n) s i := ⟨_, rfl⟩
    have I := Inv.bfs (step := stepC) (moves := movesC n) s i
    have lne := later_ne nt hp0 ld0
    rw [← hb0] at fb I lne
    have lane : la ≠ [] := fun z => lne (by rw [← fb.eq, z]; rfl)
    refine ⟨_, rfl, (by show 0 ≤ sizeLine; decide), fun p9 H9 n9 e9 h9 => ?_⟩
    have yd : Dp K H9 (.ref Y) (eL eEn la) := .lst (sqI (e9 _ _ hy8)) (yr8.dp fun v x r => (r.ex e9).dp)
    refine neE (goodL goodEn) (by decide) (x := la) (y := []) yd (.lst (sqI h9) .nil) ⟨_, rfl, ?_⟩
    refine ifT (by simp [lane]) ?_
    have yr9 := yr8.mono fun v x (r : EnR K Y H8 v x) => r.ex e9
    have hy9 := e9 _ _ hy8
    have fb9 := fb.ex e9
    have e09 := e8.trans e9
    refine ⟨fun σ' H' => ∃ Y la v5 v6 v7 v8 v9 v10, σ' = [some (.ref f), some (anP a), some (.ref g), some (.ref Y), some (.ref S), v5, v6, v7, v8, v9, v10] ∧ Ex H H' ∧ i + 1 ≤ p0.length ∧ Not n s gl (i + 1) ∧ FB K w n S Y H' (11 ^ (i + 1)) (i + 1) (bfsB stepC (movesC n) s (i + 1)) la [], ?_, ?_⟩
    · rintro σ' H' ⟨Y', la', w5, w6, w7, w8, w9, w10, rfl, e', il', nt', fb'⟩
      exact ⟨p0.length + 1 - (i + 1), by omega, i + 1, Y', la', w5, w6, w7, w8, w9, w10, rfl, e', il', rfl, nt', fb'⟩
    -- is one the goal
    refine ⟨_, rfl, Y, rfl, ⟨_, sqI hy9⟩, for_list (K := K) (a := Y) (xs := yu) (fun j σ H' => ∃ v5 v6, σ = [some (.ref f), some (anP a), some (.ref g), some (.ref Y), some (.ref S), v5, v6, v7, v8, v9, v10] ∧ Ex H9 H' ∧ ∀ e ∈ la.take j, e.1.1 ≠ gl) ⟨_, _, rfl, Evl.Ex.refl _, fun e h => nomatch h⟩ (fun j σ H' _ ⟨_, _, _, e, _⟩ => sqI (e _ _ hy9)) ?_ ?_⟩
    · rintro j x σ H10 hx ⟨v5, v6, rfl, e10, no⟩
      obtain ⟨e, he, q, sv, wq, us, rfl, hq, hst, _, hw, hus⟩ := yr9.get hx
      have em : e ∈ la := List.mem_of_getElem? he
      obtain ⟨q2, r2, rfl, hq2, hr2⟩ := hst.ex e10
      refine ⟨_, _, rfl, sqT_exN e10 hq, rfl, _, _, rfl, _, _, rfl, rfl, ?_⟩
      have fd : Dp K H10 (.ref r2) (eT PyData.bool e.1.1) := .tup hr2 (dpB _)
      have gd : Dp K H10 (.ref g) (eT PyData.bool gl) := .tup (sqT_exN (e09.trans e10) hg) (dpB _)
      refine ⟨_, rfl, q2, _, _, _, rfl, rfl, hq2, at0, _, rfl, eqE (goodT goodB) (by decide) (x := e.1.1) (y := gl) fd gd ⟨_, rfl, ?_⟩⟩
      refine ifB (fun c => ?_) (fun c => ?_)
      · have c : e.1.1 = gl := of_decide_eq_true c
        have gt := fb.get e em
        obtain ⟨w1, w2, w3⟩ := I.way _ _ gt
        refine ⟨_, rfl, k wq H10 us e.2 (e09.trans e10) (e10 _ _ hw) (hus.mono fun v m r => r.ex e10) ?_ (by rw [← hn]; exact w3) ?_⟩
        · rw [← hs]
          show (e.2.foldl stepC s).1 = gl
          rw [w1]
          exact c
        · intro p' hp' hl'
          rw [← hn] at hp'
          rw [← hs] at hl'
          have := not_least nt hp' hl'
          omega
      · have c : ¬ e.1.1 = gl := of_decide_eq_false c
        refine ⟨_, _, rfl, e10, fun e' he' => ?_⟩
        rw [take_snoc he] at he'
        rcases List.mem_append.mp he' with z | z
        · exact no e' z
        · rw [List.mem_singleton.mp z]
          exact c
    rintro σ H10 ⟨v5, v6, rfl, e10, no⟩
    rw [yr9.1, List.take_length] at no
    have nl : ∀ t ∈ b0.later, t.1 ≠ gl := fun t ht => by
      rw [← fb.eq] at ht
      obtain ⟨e, he, rfl⟩ := List.mem_map.mp ht
      exact no e he
    have ntn : Not n s gl (i + 1) := not_next nt (by rw [← hb0]; exact nl)
    have il1 : i + 1 ≤ p0.length := not_least ntn hp0 ld0
    have fb10 := fb9.ex e10
    have yr10 := yr9.mono fun v x (r : EnR K Y H9 v x) => r.ex e10
    have hy10 := e10 _ _ hy9
    have e010 := e09.trans e10
    -- later
    refine ⟨(by show 0 ≤ sizeLine; decide), fun L H11 nL e11 hL => ?_⟩
    have nL0 := none_of e010 nL
    obtain ⟨kv10, d10, kr10⟩ := fb10.d
    have nYL : Y ≠ L := ne_of_none hy10 nL
    have nYS : Y ≠ S := d10.ne_lst hy10
    have nLS : L ≠ S := by
      obtain ⟨o, ho⟩ := d10.there
      exact (ne_of_none ho nL).symm
    have fb11 : FB K w n S L H11 (11 ^ i) (i + 1) ⟨b0.found, []⟩ [] la := ⟨⟨kv10, d10.ex e11, kr10⟩, ⟨[], hL, AllR.nil⟩, rfl, (fun e h => nomatch h), (fun e h => nomatch h), (fun e h => nomatch h), fb10.n1, Nat.zero_le _, fb10.get⟩
    have eb : bfsB stepC (movesC n) s (i + 1) = b0.later.foldl (rowB stepC (movesC n)) ⟨b0.found, []⟩ := by rw [hb0]; rfl
    have ll : b0.later.length ≤ 11 ^ i := fb.n2
    have lal : la.length = b0.later.length := by rw [← fb.eq, List.length_map]
    have yr11 := yr10.mono fun v x (r : EnR K Y H10 v x) => EnR.to nL e11 r
    refine ⟨_, rfl, Y, rfl, ⟨_, sqI (e11 _ _ hy10)⟩, for_list (K := K) (a := Y) (xs := yu) (fun j σ H' => ∃ la' v5 v6 v8 v9 v10, σ = [some (.ref f), some (anP a), some (.ref g), some (.ref Y), some (.ref S), v5, v6, some (.ref L), v8, v9, v10] ∧ Ex H H' ∧ H' Y = some (.lst yu) ∧ AllR (EnR K L H') yu la ∧ FB K w n S L H' (11 ^ i + 10 * j) (i + 1) ((b0.later.take j).foldl (rowB stepC (movesC n)) ⟨b0.found, []⟩) la' la) ⟨_, _, _, _, _, _, rfl, e010.trans e11, e11 _ _ hy10, yr11, fb11⟩ (fun j σ H' _ ⟨_, _, _, _, _, _, _, _, h, _⟩ => sqI h) ?_ ?_⟩
    · rintro j x σ H12 hx ⟨la', v5, v6, v8, v9, v10, rfl, e12, hy12, yr12, fb12⟩
      obtain ⟨e, he, q, sv, wq, us, rfl, hq, hst, nwL, hw, hus⟩ := yr12.get hx
      have em : e ∈ la := List.mem_of_getElem? he
      have ev := fb.vs e em
      have el := fb.ln e em
      have jl : j < la.length := (List.getElem?_eq_some_iff.mp he).1
      have hks : b0.later[j]? = some e.1 := by rw [← fb.eq, List.getElem?_map, he]; rfl
      obtain ⟨bj, hbj⟩ : ∃ bj, bj = (b0.later.take j).foldl (rowB stepC (movesC n)) ⟨b0.found, []⟩ := ⟨_, rfl⟩
      rw [← hbj] at fb12
      have ej1 : (b0.later.take (j + 1)).foldl (rowB stepC (movesC n)) ⟨b0.found, []⟩ = (movesC n).foldl (turnB stepC e.1) bj := by
        rw [take_snoc hks, List.foldl_append, ← hbj]
        rfl
      rw [ej1]
      refine ⟨_, _, rfl, hq, rfl, _, _, rfl, _, _, rfl, rfl, ?_⟩
      refine ⟨(by show 2 ≤ sizeLine; decide), fun W0 H13 nW e13 hW => ?_⟩
      have src13 : Src K L H13 sv wq us e := Src.ex e13 ⟨hst, nwL, hw, hus⟩
      have e1213 := e12.trans e13
      have sq0 : SqT K H13 W0 [V.str (wordC false), V.str (wordC true)] := sqT hW
      refine ⟨W0, rfl, ⟨_, sq0⟩, for_tup (K := K) (a := W0) (xs := [V.str (wordC false), V.str (wordC true)]) (fun jw σ H' => ∃ la' v8 v9 v10, σ = [some (.ref f), some (anP a), some (.ref g), some (.ref Y), some (.ref S), some sv, some (.ref wq), some (.ref L), v8, v9, v10] ∧ Ex H H' ∧ H' Y = some (.lst yu) ∧ AllR (EnR K L H') yu la ∧ Src K L H' sv wq us e ∧ SqT K H' W0 [V.str (wordC false), V.str (wordC true)] ∧ FB K w n S L H' (11 ^ i + 10 * j + jw * n) (i + 1) (((movesC n).take (jw * n)).foldl (turnB stepC e.1) bj) la' la) ⟨la', _, _, _, rfl, e1213, e13 _ _ hy12, yr12.mono fun v x r => r.ex e13, src13, sq0, by rw [show 0 * n = 0 by omega]; exact fb12.ex e13⟩ (fun jw σ H' _ ⟨_, _, _, _, _, _, _, _, _, h, _⟩ => h) ?_ ?_⟩
      · rintro jw x σ H14 hxw ⟨la1, v8, v9, v10, rfl, e14, hy14, yr14, src14, sq14, fb14⟩
        obtain ⟨jw2, rfl⟩ : jw < 2 ∧ x = V.str (wordC (decide (jw = 1))) := by
          match jw, hxw with
          | 0, h => exact ⟨by decide, (Option.some.inj h).symm⟩
          | 1, h => exact ⟨by decide, (Option.some.inj h).symm⟩
          | _ + 2, h => simp at h
        refine ⟨_, rfl, _, _, rfl, .inr (sqT_exN e14 hf), _, rfl, (by rw [List.length_map]; omega), (by rw [List.length_map]; omega), ?_⟩
        rw [List.length_map, ← hn]
        refine for_range (lo := 0) (n := (((n : Nat) : Int)).toNat) (fun c σ H' => ∃ la' v9 v10, σ = [some (.ref f), some (anP a), some (.ref g), some (.ref Y), some (.ref S), some sv, some (.ref wq), some (.ref L), some (.str (wordC (decide (jw = 1)))), v9, v10] ∧ Ex H H' ∧ H' Y = some (.lst yu) ∧ AllR (EnR K L H') yu la ∧ Src K L H' sv wq us e ∧ SqT K H' W0 [V.str (wordC false), V.str (wordC true)] ∧ FB K w n S L H' (11 ^ i + 10 * j + (jw * n + c)) (i + 1) (((movesC n).take (jw * n + c)).foldl (turnB stepC e.1) bj) la' la) ⟨la1, _, _, rfl, e14, hy14, yr14, src14, sq14, fb14⟩ ?_ ?_
        · rintro c σ H15 hc ⟨la2, v9, v10, rfl, e15, hy15, yr15, src15, sq15, fb15⟩
          have hc : c < n := by omega
          have ec : ((0 : Int) + (c : Int)) = ((c : Nat) : Int) := by omega
          rw [ec]
          obtain ⟨bf, hbf⟩ : ∃ bf, bf = ((movesC n).take (jw * n + c)).foldl (turnB stepC e.1) bj := ⟨_, rfl⟩
          obtain ⟨mv, hmv⟩ : ∃ mv : Mv, mv = (decide (jw = 1), c) := ⟨_, rfl⟩
          have mat : (movesC n)[jw * n + c]? = some mv := by rw [hmv]; exact moves_at jw2 hc
          have etk : ((movesC n).take (jw * n + c + 1)).foldl (turnB stepC e.1) bj = turnB stepC e.1 bf mv := by
            rw [take_snoc mat, List.foldl_append, ← hbf]
            rfl
          rw [← hbf] at fb15
          rw [show jw * n + (c + 1) = jw * n + c + 1 by omega, etk]
          obtain ⟨q2, r2, esv, hq2, hr2⟩ := id src15.st
          subst esv
          refine ⟨_, rfl, q2, _, _, _, rfl, rfl, hq2, at0, _, rfl, q2, _, _, _, rfl, rfl, hq2, at1, _, rfl, _, rfl, ?_⟩
          refine ⟨r2, e.1.1, e.1.2, mv, by rw [hmv]; rfl, hr2, by rw [ev.len]; omega, by rw [ev.len]; exact ev.anc, by rw [hmv, ev.len]; exact hc, fun bv H16 e16 hbv => ?_⟩
          obtain ⟨st', hst'⟩ : ∃ st', st' = stepC e.1 mv := ⟨_, rfl⟩
          have hbv : StP K H16 bv st' := by rw [hst']; exact hbv
          have vst : VS n st' := by rw [hst']; exact vs_step ev (by rw [hmv]; exact hc)
          obtain ⟨bq, rfl, nk16⟩ := nis_c hbv
          have fb16 := fb15.ex e16
          obtain ⟨kvs, dS, kr⟩ := fb16.d
          have src16 := src15.ex e16
          have e0_16 := e15.trans e16
          refine ⟨_, rfl, _, rfl, S, bq, kvs, keyC st', rfl, rfl, dS.rd, nk16, keyC_depth _, _, rfl, ?_⟩
          have kS := kv_some (s := st') kr
          by_cases cc : (getP bf.found st').isSome = true
          · have et : turnB stepC e.1 bf mv = bf := by
              unfold turnB
              rw [← hst', if_pos cc]
            rw [et]
            refine ifF (by rw [kS, cc]; rfl) ?_
            exact ⟨la2, _, _, rfl, e0_16, e16 _ _ hy15, yr15.mono fun v x r => r.ex e16, src16, sqT_exN e16 sq15, fb16.mono (by omega)⟩
          · have cn : getP bf.found st' = none := by
              cases h : getP bf.found st' with
              | none => rfl
              | some z => rw [h] at cc; exact absurd rfl cc
            have vn : valV kvs (keyC st') = none := by
              rw [cn] at kS
              cases h : valV kvs (keyC st') with
              | none => rfl
              | some z => rw [h] at kS; cases kS
            have ge := fb16.lay e em
            have et : turnB stepC e.1 bf mv = ⟨bf.found ++ [(st', e.2 ++ [mv])], bf.later ++ [st']⟩ := by
              unfold turnB
              rw [← hst', if_neg cc, ge]
              rfl
            rw [et]
            refine ifT (by rw [kS, cn]; rfl) ?_
            have b1 := fb16.n1
            have b2 := fb16.n2
            have j11 : j < 11 ^ i := by omega
            have bnd : 11 ^ i + 10 * j + (jw * n + c) ≤ 2000000 := by
              have : jw * n ≤ 1 * 5 := Nat.mul_le_mul (by omega) n5
              omega
            refine ⟨_, rfl, _, rfl, S, bq, kvs, keyC st', true, rfl, rfl, dS, nk16, keyC_depth _, ?_, fun H17 x17 d17' => ?_⟩
            · rw [kv_len kr]
              exact Nat.lt_of_le_of_lt (show bf.found.length ≤ 2000000 by omega) (by decide)
            rw [putK_new _ vn] at d17'
            have d17 : IsDN true K w H17 S (kvs ++ [(keyC st', V.bl true)]) := d17'
            have ntS := dS.ntup
            obtain ⟨lu, hl16, lr16⟩ := fb16.l
            have nlS : ∀ a xs, H16 a = some (.lst xs) → a ≠ S := fun a xs h => dS.ne_lst h
            have hl17 := x17 _ _ (nlS _ _ hl16) hl16
            have hw17 := x17 _ _ (nlS _ _ src16.w) src16.w
            have mus17 : AllR (MvR K H17) us e.2 := src16.r.mono fun v m r => r.keep x17 ntS
            refine ⟨_, rfl, .inl ⟨rfl, _, sqI hl17⟩, _, rfl, _, rfl, wq, us, rfl, .inr (sqI hw17), _, rfl, _, rfl, (by show 2 ≤ sizeLine; decide), fun p18 H18 n18 e18 h18 => ?_⟩
            have usl : us.length ≤ 5 := by rw [src16.r.1]; omega
            refine ⟨?_, fun p19 H19 n19 e19 h19 => ?_⟩
            · rw [List.length_append]
              exact Nat.le_trans (show us.length + 1 ≤ 6 by omega) (by decide)
            refine ⟨(by show 2 ≤ sizeLine; decide), fun p20 H20 n20 e20 h20 => ?_⟩
            have e1720 := e18.trans (e19.trans e20)
            have hl20 := e1720 _ _ hl17
            refine ⟨_, _, _, rfl, rfl, hl20, ?_, ?_⟩
            · rw [lr16.1]
              have : la2.length = bf.later.length := by rw [← fb16.eq, List.length_map]
              exact Nat.lt_of_le_of_lt (show la2.length ≤ 2000000 by omega) (by decide)
            have ntL : NTup H20 L := NTup.lst hl20
            have x21 : Exj L H20 (upd H20 L (.lst (lu ++ [.ref p20]))) := (Exj.refl _ _).upd
            have hl21 : upd H20 L (.lst (lu ++ [.ref p20])) L = some (.lst (lu ++ [.ref p20])) := upd_same
            generalize upd H20 L (.lst (lu ++ [.ref p20])) = H21 at x21 hl21 ⊢
            have p19L : p19 ≠ L := (ne_of_none ((e18) _ _ hl17) n19).symm
            have enK : ∀ {v : V} {e' : En}, EnR K L H16 v e' → EnR K L H21 v e' := fun r => ((r.keepS x17 ntS nlS).ex e1720).keepL x21 ntL
            have stK : ∀ {v : V} {t : Sc}, StP K H16 v t → StP K H21 v t := fun r => ((r.keep x17 ntS).ex e1720).keep x21 ntL
            have e21 : Ex H H21 := fun b o hb => x21 _ _ (ne_of_none hb nL0) (e1720 _ _ (x17 _ _ (ne_of_none hb nS0) (e0_16 _ _ hb)))
            have hy21 : H21 Y = some (.lst yu) := x21 _ _ nYL (e1720 _ _ (x17 _ _ nYS (e16 _ _ hy15)))
            have en20 : EnR K L H21 (.ref p20) (st', e.2 ++ [mv]) := by
              refine ⟨p20, .ref bq, p19, us ++ [.ref p18], rfl, sqT_keep x21 ntL (sqT h20), stK hbv, p19L, x21 _ _ p19L (e20 _ _ h19), ?_⟩
              refine AllR.snoc (mus17.mono fun v m r => (r.ex e1720).keep x21 ntL) ⟨p18, rfl, ?_⟩
              rw [hmv]
              exact sqT_keep x21 ntL (sqT ((e19.trans e20) _ _ h18))
            have src21 : Src K L H21 (.ref q2) wq us e := ⟨stK src16.st, src16.n, x21 _ _ src16.n (e1720 _ _ hw17), mus17.mono fun v m r => (r.ex e1720).keep x21 ntL⟩
            refine ⟨la2 ++ [(st', e.2 ++ [mv])], _, _, rfl, e21, hy21, (yr15.mono fun v x r => r.ex e16).mono fun v x r => enK r, src21, sqT_keep x21 ntL (sqT_exN e1720 (sqT_keep x17 ntS (sqT_exN e16 sq15))), ⟨⟨_, (d17.ex e1720).keep x21 ntL nLS.symm, ?_⟩, ⟨_, hl21, AllR.snoc (lr16.mono fun v x r => enK r) en20⟩, ?_, ?_, ?_, ?_, ?_, ?_, ?_⟩⟩
            · unfold KvR at kr ⊢
              rw [List.map_append, List.map_append, kr]
              rfl
            · rw [List.map_append, fb16.eq]
              rfl
            · intro e' he'
              rcases List.mem_append.mp he' with z | z
              · exact getP_app (fb16.get e' z)
              · rw [List.mem_singleton.mp z]
                exact getP_new cn
            · intro e' he'
              rcases List.mem_append.mp he' with z | z
              · exact fb16.vs e' z
              · rw [List.mem_singleton.mp z]
                exact vst
            · intro e' he'
              rcases List.mem_append.mp he' with z | z
              · exact fb16.ln e' z
              · rw [List.mem_singleton.mp z]
                show (e.2 ++ [mv]).length ≤ i + 1
                rw [List.length_append]
                show e.2.length + 1 ≤ i + 1
                omega
            · rw [List.length_append]
              show bf.found.length + 1 ≤ _
              omega
            · rw [List.length_append]
              show bf.later.length + 1 ≤ _
              omega
            · intro e' he'
              exact getP_app (fb16.lay e' he')
        · rintro σ H15 ⟨la2, v9, v10, rfl, e15, hy15, yr15, src15, sq15, fb15⟩
          have en : (((n : Nat) : Int)).toNat = n := by omega
          rw [en, show jw * n + n = (jw + 1) * n by rw [Nat.succ_mul]] at fb15
          exact ⟨la2, _, _, _, rfl, e15, hy15, yr15, src15, sq15, fb15⟩
      · rintro σ H14 ⟨la1, v8, v9, v10, rfl, e14, hy14, yr14, src14, sq14, fb14⟩
        have fb14 : FB K w n S L H14 (11 ^ i + 10 * j + 2 * n) (i + 1) (((movesC n).take (2 * n)).foldl (turnB stepC e.1) bj) la1 la := fb14
        rw [← moves_len n, List.take_length, moves_len] at fb14
        exact ⟨la1, _, _, _, _, _, rfl, e14, hy14, yr14, fb14.mono (by omega)⟩
    · rintro σ H12 ⟨la', v5, v6, v8, v9, v10, rfl, e12, hy12, yr12, fb12⟩
      rw [yr12.1, lal, List.take_length, ← eb] at fb12
      refine ⟨_, rfl, L, la', _, _, _, _, _, _, rfl, e12, il1, ntn, ?_⟩
      have := fb12.mono (B' := 11 ^ (i + 1)) (by rw [Nat.pow_succ]; omega)
      exact ⟨this.d, this.l, this.eq, this.get, this.vs, this.ln, this.n1, this.n2, fun e h => nomatch h⟩
end
end K76
set_option Elab.async false
set_option pp.maxSteps 1200
set_option linter.all false
set_option maxRecDepth 100000
set_option maxHeartbeats 4000000
namespace K76
open PySem L2 My Bfs
def sp_outside (K : PySem.W.Frag) : Sp := fun vs H Q _ => ∃ (a m : Addr) (ns ms : List Int), vs = [.ref a, .ref m] ∧ SqL K H a (ns.map V.int) ∧ SqL K H m (ms.map V.int) ∧ ms.length ≤ 1000 ∧ ∀ p H', Ex H H' → H' p = some (.lst ((ms.filter fun r => !decide (r ∈ ns)).map V.int)) → Q (.ref p) H'
theorem same {α : Type} [DecidableEq α] {a : α} : (!decide (a = a)) = false := by simp
def flg (ns ms : List Int) : List Bool := ns.map fun r => decide (r ∈ ms)
def posA (ns : List Int) : Option Int → Option Nat
  | none => none
  | some r => if r ∈ ns then some (ns.idxOf r) else none
/-- the clicks on all unlike places -/
def allC (fl gl : List Bool) (k : Nat) : List Mv := ((List.range k).filter fun p => !decide (fl.getD p false = gl.getD p false)).map fun p => (false, p)
theorem allC_succ (fl gl : List Bool) (k : Nat) : allC fl gl (k + 1) = allC fl gl k ++ if fl.getD k false = gl.getD k false then [] else [(false, k)] := by
  unfold allC
  rw [List.range_succ, List.filter_append, List.map_append, List.filter_cons]
  by_cases h : fl.getD k false = gl.getD k false
  · rw [if_neg (by simp only [decide_eq_true h]; decide), if_pos h]
    rfl
  · rw [if_pos (by simp only [decide_eq_false h]; decide), if_neg h]
    rfl
theorem allC_lead {fl gl : List Bool} {a : Option Nat} : ∀ k, k ≤ fl.length → ((allC fl gl k).foldl stepC (fl, a)).1.length = fl.length ∧ ∀ i, i < fl.length → ((allC fl gl k).foldl stepC (fl, a)).1.getD i false = if i < k then gl.getD i false else fl.getD i false
  | 0, _ => ⟨rfl, fun i hi => by rw [if_neg (by omega)]; rfl⟩
  | k + 1, h => by
    obtain ⟨h1, h2⟩ := allC_lead (fl := fl) (gl := gl) (a := a) k (by omega)
    rw [allC_succ, List.foldl_append]
    obtain ⟨st, hst⟩ : ∃ st, st = (allC fl gl k).foldl stepC (fl, a) := ⟨_, rfl⟩
    rw [← hst] at h1 h2 ⊢
    by_cases c : fl.getD k false = gl.getD k false
    · rw [if_pos c]
      refine ⟨h1, fun i hi => ?_⟩
      show st.1.getD i false = _
      rw [h2 i hi]
      by_cases z : i = k
      · rw [z, if_neg (by omega), if_pos (by omega), c]
      · by_cases y : i < k
        · rw [if_pos y, if_pos (by omega)]
        · rw [if_neg y, if_neg (by omega)]
    · rw [if_neg c]
      have e : [((false, k) : Mv)].foldl stepC st = (st.1.set k (!st.1.getD k false), some k) := by
        show stepC st (false, k) = _
        unfold stepC
        rw [if_neg (fun z => Bool.noConfusion z.1)]
      rw [e]
      refine ⟨by show (st.1.set _ _).length = _; rw [List.length_set, h1], fun i hi => ?_⟩
      show (st.1.set k (!st.1.getD k false)).getD i false = _
      rw [set_getD (f := st.1) (p := k) (i := i) (show k < st.1.length by omega), h2 k (by omega), if_neg (show ¬ k < k by omega)]
      by_cases z : i = k
      · rw [if_pos z, if_pos (by omega), z]
        cases hf : fl.getD k false <;> cases hg : gl.getD k false <;> simp_all
      · rw [if_neg z, h2 i hi]
        by_cases y : i < k
        · rw [if_pos y, if_pos (by omega)]
        · rw [if_neg y, if_neg (by omega)]
theorem allC_leads {fl gl : List Bool} {a : Option Nat} (h : gl.length = fl.length) : leads (fl, a) gl (allC fl gl fl.length) := by
  obtain ⟨h1, h2⟩ := allC_lead (fl := fl) (gl := gl) (a := a) fl.length (Nat.le_refl _)
  exact flag_ext (n := fl.length) h1 h fun i hi => by rw [h2 i hi, if_pos hi]
theorem allC_mem {fl gl : List Bool} {k n : Nat} (h : k ≤ n) : ∀ m ∈ allC fl gl k, m ∈ movesC n := fun m hm => by
  obtain ⟨p, hp, rfl⟩ := List.mem_map.mp hm
  have := List.mem_range.mp (List.mem_filter.mp hp).1
  exact List.mem_append_left _ (List.mem_map.mpr ⟨p, List.mem_range.mpr (by omega), rfl⟩)
theorem allC_len (fl gl : List Bool) (k : Nat) : (allC fl gl k).length ≤ k := by
  unfold allC
  rw [List.length_map]
  exact Nat.le_trans (List.length_filter_le _ _) (by rw [List.length_range]; exact Nat.le_refl _)
def sp_fewest (K : PySem.W.Frag) : Sp := fun vs H Q _ => ∃ (a m g : Addr) (ns ms gs : List Int) (an : Option Int), vs = [.ref a, .ref m, anV an, .ref g] ∧ SqL K H a (ns.map V.int) ∧ SqL K H m (ms.map V.int) ∧ SqL K H g (gs.map V.int) ∧ ns.Nodup ∧ ns.length ≤ 5 ∧
  ms.Pairwise (· < ·) ∧ gs.Pairwise (· < ·) ∧ ms.length ≤ 1000 ∧ gs.length ≤ 1000 ∧ (∀ r ∈ ms, r ∈ ns) ∧ (∀ r ∈ gs, r ∈ ns) ∧
  ∀ q H' us p, Ex H H' → H' q = some (.lst us) → AllR (MvR K H') us p → leads (flg ns ms, posA ns an) (flg ns gs) p → (∀ m ∈ p, m ∈ movesC ns.length) → (∀ p', (∀ m ∈ p', m ∈ movesC ns.length) → leads (flg ns ms, posA ns an) (flg ns gs) p' → p.length ≤ p'.length) → Q (.ref q) H'
theorem sub_nil {ns ms : List Int} (h : ∀ r ∈ ms, r ∈ ns) : (ms.filter fun r => !decide (r ∈ ns)) = [] := List.filter_eq_nil_iff.mpr fun r hr => by simp [h r hr]
theorem get_pos {ns : List Int} {H : Hp} {C : Addr} (an : Option Int) (h : H C = some (.dK (kvsOf ns fun n => V.int (ns.idxOf n : Nat)))) : GetV H C (anV an) .non (anP (posA ns an)) := by
  cases an with
  | none => exact .inr ⟨_, rfl, .inl h, rfl⟩
  | some r =>
    refine .inl ⟨_, .inl ⟨_, Sum.inl r, .inl h, rfl, rfl⟩, ?_⟩
    rw [valV_kvs]
    show anP (if r ∈ ns then some (ns.idxOf r) else none) = _
    by_cases c : r ∈ ns
    · rw [if_pos c, if_pos c]
      rfl
    · rw [if_neg c, if_neg c]
      rfl
theorem posA_lt {ns : List Int} {an : Option Int} {p : Nat} (h : posA ns an = some p) : p < ns.length := by
  cases an with
  | none => cases h
  | some r =>
    have h : (if r ∈ ns then some (ns.idxOf r) else none) = some p := h
    by_cases c : r ∈ ns
    · rw [if_pos c] at h
      cases h
      exact List.idxOf_lt_length_iff.mpr c
    · rw [if_neg c] at h
      cases h
section
variable {w : World} {K : PySem.W.Frag} {mg : Str → Option Value} {base : Heap}
theorem ok_outside (T : Txt K mg) : FnOk PR w K mg base CX0 1 T.a_outside T.d_outside ["there", "marks"] (sp_outside K) := by
  refine T.f_outside.ok sc_outside (fun vs H Q E h => ?_) (fun cdv A0 outer s0 H vs Q E hr h => ?_)
  · obtain ⟨a, m, ns, ms, rfl, _⟩ := h
    rfl
  · obtain ⟨a, m, ns, ms, rfl, ha, hm, ml, k⟩ := h
    refine ⟨_, (pss_one (ps_ret (pe_lc (own := [("row", 2)]) (g := gName 2) (by rfl) sc_outside.nd (pi_list (pv 1)) (blkOk_by (own := [("row", 2)]) (N := ["there", "marks", "row"]) (sc := (defScope s_outside)) (by decide +kernel)) (fun _ _ _ _ _ => (pg_name (i := 2) sc_outside.nd rfl (by first | exact Or.inl rfl | exact Or.inr rfl))) (fun _ _ _ _ _ => (pts_one (pt_cmpR (opK (r := fun K => rIn K true) (K := K) (by rfl) op_notIn_seq) (pv 2) (pv 0) (by rfl)))) (fun _ _ _ _ _ => (pv 2))))), ?_⟩
    refine ⟨_, rfl, m, rfl, ⟨_, hm⟩, fun D hD => lc_filtI (K := K) (a := m) (ns := ms) (p := fun r => !decide (r ∈ ns)) hm hD ml (fun x => rfl) ?_ ?_ ?_⟩
    · intro r H' hr' e' Z kZ
      refine ⟨_, rfl, _, rfl, _, _, rfl, .inl (Evl.ex_l e' ha), rfl, flatI _, _, rfl, ?_⟩
      rw [inV_int]
      exact kZ H' (Evl.Ex.refl _)
    · intro v H' N kN
      exact ⟨_, rfl, kN⟩
    intro H2 e2 d2
    exact k D H2 e2 d2
theorem ok_fewest (T : Txt K mg) : FnOk PR w K mg base (L2.CX PR w) 4 T.a_fewest T.d_fewest ["there", "marks", "anchor", "goal"] (sp_fewest K) := by
  refine T.f_fewest.okX sc_fewest (fun vs H Q E h => ?_) (fun cdv A0 outer s0 H vs Q E hr h => ?_)
  · obtain ⟨a, m, g, ns, ms, gs, an, rfl, _⟩ := h
    rfl
  · obtain ⟨a, m, g, ns, ms, gs, an, rfl, ha, hm, hg, nd, n5, pm, pg, lm, lg, sm, sg, k⟩ := h
    refine ⟨_, (pss_cons (ps_expr (pe_call (ok_check_there T) (hr.mono (by decide)) (by rfl) T.g_check_there T.f_check_there.kp (b_check_there T) .nil passX (pa_cons (pv 0) pa_nil))) (pss_cons (ps_expr (pe_call (ok_check_marks T) (hr.mono (by decide)) (by rfl) T.g_check_marks T.f_check_marks.kp (b_check_marks T) .nil passX (pa_cons (pv 1) pa_nil))) (pss_cons (ps_if (pt_not (pt_val (pe_call (ok_are_marks T) (hr.mono (by decide)) (by rfl) T.g_are_marks T.f_are_marks.kp (b_are_marks T) .nil pass0 (pa_cons (pv 3) pa_nil)))) (pss_one (ps_raise rfl (takes_of rfl rfl rfl rfl) (pmk_err (ok_init T) (b_init T) T.e_InvalidMarks (hr.mono (by decide)) (by rfl) T.g_InvalidMarks (pa_cons (pe_callTy call_listG (by rfl) T.z_list (by decide +kernel) (pa_cons (pv 3) pa_nil)) pa_nil)))) pss_nil) (pss_cons (ps_if (pt_cmpR (op_neD hr.units) (pe_call (ok_outside T) (hr.mono (by decide)) (by rfl) T.g_outside T.f_outside.kp (b_outside T) .nil pass0 (pa_cons (pv 0) (pa_cons (pv 1) pa_nil))) (pe_call (ok_outside T) (hr.mono (by decide)) (by rfl) T.g_outside T.f_outside.kp (b_outside T) .nil pass0 (pa_cons (pv 0) (pa_cons (pv 3) pa_nil))) (nomark _)) (pss_one (ps_ret pe_non)) pss_nil) (pss_cons (ps_set (i := 4) sc_fewest.nd rfl (by first | exact Or.inl rfl | exact Or.inr rfl) (pe_callTy call_tupleG (by rfl) T.z_tuple (by decide +kernel) (pa_cons (pe_lc (own := [("row", 5)]) (g := gName 5) (by rfl) sc_fewest.nd (pi_list (pv 0)) (blkOk_by (own := [("row", 5)]) (N := ["there", "marks", "anchor", "goal", "flags", "row"]) (sc := (defScope s_fewest)) (by decide +kernel)) (fun _ _ _ _ _ => (pg_name (i := 5) sc_fewest.nd rfl (by first | exact Or.inl rfl | exact Or.inr rfl))) (fun _ _ _ _ _ => pts_nil) (fun _ _ _ _ _ => (pe_cmpR (opK (r := fun K => rIn K false) (K := K) (by rfl) op_in_seq) (pv 5) (pv 1) (by rfl)))) pa_nil))) (pss_one (ps_ret (pe_call (ok_first_list T) (hr.mono (by decide)) (by rfl) T.g_first_list T.f_first_list.kp (b_first_list T) .nil pass0 (pa_cons (pv 4) (pa_cons (pe_dget1N (hu_of hr) (pe_call (ok_places_of T) (hr.mono (by decide)) (by rfl) T.g_places_of T.f_places_of.kp (b_places_of T) .nil pass0 (pa_cons (pv 0) pa_nil)) (pv 2) ⟨rfl, rfl, rfl, rfl⟩) (pa_cons (pe_callTy call_tupleG (by rfl) T.z_tuple (by decide +kernel) (pa_cons (pe_lc (own := [("row", 5)]) (g := gName 5) (by rfl) sc_fewest.nd (pi_list (pv 0)) (blkOk_by (own := [("row", 5)]) (N := ["there", "marks", "anchor", "goal", "flags", "row"]) (sc := (defScope s_fewest)) (by decide +kernel)) (fun _ _ _ _ _ => (pg_name (i := 5) sc_fewest.nd rfl (by first | exact Or.inl rfl | exact Or.inr rfl))) (fun _ _ _ _ _ => pts_nil) (fun _ _ _ _ _ => (pe_cmpR (opK (r := fun K => rIn K false) (K := K) (by rfl) op_in_seq) (pv 5) (pv 3) (by rfl)))) pa_nil)) pa_nil))))))))))), ?_⟩
    refine ⟨_, rfl, a, ns, rfl, ha, nd, by omega, ?_⟩
    refine ⟨_, rfl, m, ms, rfl, hm, pm, lm, fun H1 e1 => ?_⟩
    refine ⟨_, rfl, g, gs, rfl, Evl.ex_l e1 hg, pg, lg, fun H2 e2 => ?_⟩
    refine ⟨_, rfl, ifF rfl ?_⟩
    have e02 := e1.trans e2
    refine ⟨_, rfl, _, rfl, a, m, ns, ms, rfl, Evl.ex_l e02 ha, Evl.ex_l e02 hm, lm, fun p3 H3 e3 h3 => ?_⟩
    have e03 := e02.trans e3
    refine ⟨_, rfl, _, rfl, a, g, ns, gs, rfl, Evl.ex_l e03 ha, Evl.ex_l e03 hg, lg, fun p4 H4 e4 h4 => ?_⟩
    rw [sub_nil sm] at h3
    rw [sub_nil sg] at h4
    refine neI_ (xs := []) (ys := []) (sqI (e4 _ _ h3)) (sqI h4) ⟨_, rfl, ifF same ?_⟩
    have e04 := e03.trans e4
    refine ⟨_, rfl, a, rfl, ⟨_, Evl.ex_l e04 ha⟩, fun D hD => lc_mapL (K := K) (a := a) (ys := (flg ns ms).map V.bl) (Evl.ex_l e04 ha) hD (by simp [flg]) (by rw [List.length_map]; exact Nat.le_trans n5 (by decide)) (fun x => rfl) ?_ ?_⟩
    · intro i x y H' e' hx hy R kR
      obtain ⟨c, hc, rfl⟩ := mapI_get hx
      unfold flg at hy
      rw [List.getElem?_map, List.getElem?_map, hc] at hy
      cases hy
      refine ⟨_, rfl, _, rfl, _, _, rfl, .inl (Evl.ex_l (e04.trans e') hm), rfl, flatI _, ?_⟩
      show R (.bl (inV (V.int c) (ms.map V.int))) _
      rw [inV_int]
      exact kR H' (Evl.Ex.refl _)
    intro H5 e5 d5
    refine ⟨D, _, rfl, sqI d5, fun t6 H6 n6 e6 h6 => ?_⟩
    have e06 := e04.trans (e5.trans e6)
    -- places_of(there).get(anchor)
    refine ⟨_, rfl, _, rfl, a, ns, rfl, Evl.ex_l e06 ha, nd, by omega, fun pd H7 n7 e7 h7 => ?_⟩
    have e07 := e06.trans e7
    refine ⟨pd, rfl, .inl ⟨_, .inl h7⟩, _, rfl, anP (posA ns an), get_pos an h7, ?_⟩
    refine ⟨_, rfl, a, rfl, ⟨_, Evl.ex_l e07 ha⟩, fun D2 hD2 => lc_mapL (K := K) (a := a) (ys := (flg ns gs).map V.bl) (Evl.ex_l e07 ha) hD2 (by simp [flg]) (by rw [List.length_map]; exact Nat.le_trans n5 (by decide)) (fun x => rfl) ?_ ?_⟩
    · intro i x y H' e' hx hy R kR
      obtain ⟨c, hc, rfl⟩ := mapI_get hx
      unfold flg at hy
      rw [List.getElem?_map, List.getElem?_map, hc] at hy
      cases hy
      refine ⟨_, rfl, _, rfl, _, _, rfl, .inl (Evl.ex_l (e07.trans e') hg), rfl, flatI _, ?_⟩
      show R (.bl (inV (V.int c) (gs.map V.int))) _
      rw [inV_int]
      exact kR H' (Evl.Ex.refl _)
    intro H8 e8 d8
    refine ⟨D2, _, rfl, sqI d8, fun t9 H9 n9 e9 h9 => ?_⟩
    have e09 := e07.trans (e8.trans e9)
    have fl : (flg ns ms).length = ns.length := by simp [flg]
    have gl : (flg ns gs).length = ns.length := by simp [flg]
    have f9 : SqT K H9 t6 ((flg ns ms).map V.bl) := sqT ((e7.trans (e8.trans e9)) _ _ h6)
    refine ⟨t6, t9, flg ns ms, flg ns gs, posA ns an, allC (flg ns ms) (flg ns gs) ns.length, rfl, f9, sqT h9, by omega, fun p hp => by rw [fl]; exact posA_lt hp, allC_mem (by omega), Nat.le_trans (allC_len _ _ _) n5, ?_, fun q H' us p x hq hu hl hp hmin => ?_⟩
    · have := allC_leads (fl := flg ns ms) (gl := flg ns gs) (a := posA ns an) (by omega)
      rw [fl] at this
      exact this
    · rw [fl] at hp hmin
      exact k q H' us p (e09.trans x) hq hu hl hp hmin
end
end K76
set_option Elab.async false
set_option pp.maxSteps 1200
set_option linter.all false
set_option maxRecDepth 100000
set_option maxHeartbeats 4000000
namespace K76
open PySem L2 My
/-! the cost told place by place -/
def cstep (ps : List Int) (st : Int × Int) (j : Int) : Int × Int := if j ∈ ps then (st.1, st.2 + 1) else (st.1 + (st.2 + 1) / 2, 0)
def cfold (ps : List Int) (n : Nat) : Int × Int := ((List.range n).map fun i => ((i : Nat) : Int)).foldl (cstep ps) (0, 0)
theorem cfold_succ (ps : List Int) (n : Nat) : cfold ps (n + 1) = cstep ps (cfold ps n) n := by
  unfold cfold
  rw [List.range_succ, List.map_append, List.foldl_append]
  rfl
theorem filt_in {j : Int} : ∀ {ps : List Int}, ps.Pairwise (· < ·) → j ∈ ps → ps.filter (fun p => decide (p < j + 1)) = ps.filter (fun p => decide (p < j)) ++ [j]
  | [], _, h => nomatch h
  | p :: r, hp, h => by
    obtain ⟨h1, h2⟩ := List.pairwise_cons.mp hp
    rw [List.filter_cons, List.filter_cons]
    rcases List.mem_cons.mp h with e | e
    · subst e
      have z : ∀ b : Int, b ≤ j + 1 → r.filter (fun p => decide (p < b)) = [] := fun b hb => List.filter_eq_nil_iff.mpr fun q hq => by
        have := h1 q hq
        simp
        omega
      rw [if_pos (by simp; omega), if_neg (by simp), z (j + 1) (by omega), z j (by omega)]
      rfl
    · have := h1 j e
      rw [if_pos (by simp; omega), if_pos (by simp; omega), filt_in h2 e]
      rfl
theorem filt_out {j : Int} {ps : List Int} (h : j ∉ ps) : ps.filter (fun p => decide (p < j + 1)) = ps.filter (fun p => decide (p < j)) :=
  List.filter_congr fun p hp => by
    rw [decide_eq_decide]
    have : p ≠ j := fun e => h (e ▸ hp)
    omega
theorem blocks_add (ps : List Int) (j : Int) : blocksL (ps ++ [j]) = addB (blocksL ps) j := by
  unfold blocksL
  rw [List.foldl_append]
  rfl
theorem cost_inv {ps : List Int} (hp : ps.Pairwise (· < ·)) (h0 : ∀ p ∈ ps, 0 ≤ p) : ∀ n : Nat, ∃ bs, blocksL (ps.filter fun p => decide (p < (n : Int))) = bs ++ (if (cfold ps n).2 = 0 then [] else [((n : Int) - (cfold ps n).2, (n : Int) - 1)]) ∧ (cfold ps n).1 = (bs.map costB).sum ∧ 0 ≤ (cfold ps n).2 ∧ ((cfold ps n).2 = 0 → ∀ l k, bs = l ++ [k] → k.2 < (n : Int) - 1)
  | 0 => by
    refine ⟨[], ?_, rfl, Int.le_refl _, fun _ l k e => by simp at e⟩
    have : ps.filter (fun p => decide (p < ((0 : Nat) : Int))) = [] := List.filter_eq_nil_iff.mpr fun q hq => by
      have := h0 q hq
      simp
      omega
    rw [this]
    rfl
  | n + 1 => by
    obtain ⟨bs, h1, h2, h3, h4⟩ := cost_inv hp h0 n
    rw [cfold_succ]
    generalize cfold ps n = st at h1 h2 h3 h4
    obtain ⟨f, l⟩ := st
    unfold cstep
    dsimp only at h1 h2 h3 h4 ⊢
    have en : ((n + 1 : Nat) : Int) = (n : Int) + 1 := by omega
    rw [en]
    by_cases hj : (n : Int) ∈ ps
    · rw [if_pos hj, filt_in hp hj, blocks_add, h1]
      dsimp only
      rw [if_neg (show ¬ l + 1 = 0 by omega)]
      by_cases z : l = 0
      · rw [if_pos z, List.append_nil]
        refine ⟨bs, ?_, h2, by omega, fun q => by omega⟩
        rw [z]
        rcases List.eq_nil_or_concat bs with e | ⟨l', k, e⟩
        · rw [e]
          show [((n : Int), (n : Int))] = [((n : Int) + 1 - (0 + 1), (n : Int) + 1 - 1)]
          rw [show (n : Int) + 1 - (0 + 1) = n by omega, show (n : Int) + 1 - 1 = n by omega]
        · rw [List.concat_eq_append] at e
          have := h4 z l' k e
          rw [e, addB_snoc, if_neg (by omega)]
          rw [show (n : Int) + 1 - (0 + 1) = n by omega, show (n : Int) + 1 - 1 = n by omega]
      · rw [if_neg z, addB_snoc, if_pos rfl]
        refine ⟨bs, ?_, h2, by omega, fun q => by omega⟩
        rw [show (n : Int) + 1 - (l + 1) = n - l by omega, show (n : Int) + 1 - 1 = n by omega]
    · rw [if_neg hj, filt_out hj, h1]
      dsimp only
      rw [if_pos rfl]
      by_cases z : l = 0
      · rw [if_pos z]
        refine ⟨bs, rfl, ?_, Int.le_refl _, fun _ l' k e => ?_⟩
        · rw [z, h2]
          omega
        · have := h4 z l' k e
          omega
      · rw [if_neg z]
        refine ⟨_, (List.append_nil _).symm, ?_, Int.le_refl _, fun _ l' k e => ?_⟩
        · rw [List.map_append, List.sum_append, h2]
          show _ = _ + (((n : Int) - 1 - (n - l) + 2) / 2 + 0)
          rw [show (n : Int) - 1 - (n - l) + 2 = l + 1 by omega]
          omega
        · have e1 := (List.append_inj' e rfl).2
          injection e1 with e1 _
          rw [← e1]
          show (n : Int) - 1 < _
          omega
theorem borders_asc (ns ms : List Int) : (bordersL ns ms).Pairwise (· < ·) := by
  unfold bordersL
  refine List.Pairwise.filter _ ?_
  rw [List.pairwise_map]
  exact List.pairwise_lt_range.imp fun {a b} h => by omega
theorem cost_fold (ns ms : List Int) : cfold (bordersL ns ms) (ns.length + 2) = (costL ns ms, 0) := by
  obtain ⟨bs, h1, h2, h3, h4⟩ := cost_inv (borders_asc ns ms) (fun p hp => (borders_in_ hp).1) (ns.length + 2)
  have hout : ((ns.length + 1 : Nat) : Int) ∉ bordersL ns ms := fun h => by
    have := (borders_in_ h).2
    omega
  have z : (cfold (bordersL ns ms) (ns.length + 2)).2 = 0 := by
    rw [cfold_succ]
    unfold cstep
    rw [if_neg hout]
  have all : (bordersL ns ms).filter (fun p => decide (p < ((ns.length + 2 : Nat) : Int))) = bordersL ns ms := List.filter_eq_self.mpr fun p hp => by
    have := (borders_in_ hp).2
    simp
    omega
  rw [all, if_pos z, List.append_nil] at h1
  refine Prod.ext ?_ z
  rw [h2]
  unfold costL
  rw [h1]
end K76
set_option Elab.async false
set_option linter.all false
set_option maxRecDepth 100000
set_option maxHeartbeats 4000000
namespace K76
open PySem L2 My
/-! what sets of borders cost: pairs of neighbours from the left -/
def gst (b : Bool) (s : Nat × Bool) : Nat × Bool := if s.2 = true then (s.1, false) else if b = true then (s.1 + 1, true) else (s.1, false)
def grd (S : Nat → Bool) : Nat → Nat × Bool
  | 0 => (0, false)
  | n + 1 => gst (S n) (grd S n)
/-- the cost of sets in each other -/
theorem grd_sub {S T U : Nat → Bool} : ∀ n, (∀ i, i < n → T i = true → S i = true ∨ U i = true) → (grd T n).1 < (grd S n).1 + (grd U n).1 ∨ ((grd T n).1 = (grd S n).1 + (grd U n).1 ∧ ((grd S n).2 = true ∨ (grd U n).2 = true → (grd T n).2 = true))
  | 0, _ => .inr ⟨rfl, fun h => h.elim id id⟩
  | n + 1, h => by
    have ih := grd_sub (S := S) (T := T) (U := U) n fun i hi => h i (by omega)
    have hn := h n (by omega)
    show (gst (T n) (grd T n)).1 < (gst (S n) (grd S n)).1 + (gst (U n) (grd U n)).1 ∨ ((gst (T n) (grd T n)).1 = (gst (S n) (grd S n)).1 + (gst (U n) (grd U n)).1 ∧ ((gst (S n) (grd S n)).2 = true ∨ (gst (U n) (grd U n)).2 = true → (gst (T n) (grd T n)).2 = true))
    generalize grd T n = t at *
    generalize grd S n = s at *
    generalize grd U n = u at *
    obtain ⟨ct, kt⟩ := t
    obtain ⟨cs, ks⟩ := s
    obtain ⟨cu, ku⟩ := u
    unfold gst
    generalize T n = a at *
    generalize S n = b at *
    generalize U n = c at *
    cases kt <;> cases ks <;> cases ku <;> cases a <;> cases b <;> cases c <;> simp_all <;> omega
theorem grd_none : ∀ {S : Nat → Bool} (n : Nat), (∀ i, i < n → S i = false) → grd S n = (0, false)
  | _, 0, _ => rfl
  | S, n + 1, h => by
    show gst (S n) (grd S n) = _
    rw [grd_none n fun i hi => h i (by omega), h n (by omega)]
    rfl
theorem grd_mono {S T : Nat → Bool} (n : Nat) (h : ∀ i, i < n → T i = true → S i = true) : (grd T n).1 ≤ (grd S n).1 := by
  have := grd_sub (S := S) (T := T) (U := fun _ => false) n fun i hi ht => .inl (h i hi ht)
  rw [grd_none (S := fun _ => false) n (fun _ _ => rfl)] at this
  rcases this with z | z
  · exact Nat.le_of_lt z
  · exact Nat.le_of_eq z.1
theorem grd_join {S T U : Nat → Bool} (n : Nat) (h : ∀ i, i < n → T i = true → S i = true ∨ U i = true) : (grd T n).1 ≤ (grd S n).1 + (grd U n).1 := by
  rcases grd_sub n h with z | z
  · exact Nat.le_of_lt z
  · exact Nat.le_of_eq z.1
/-- two neighbours cost one -/
theorem grd_two (d : Nat) : ∀ n, (grd (fun i => decide (i = d ∨ i = d + 1)) n).1 ≤ 1 ∧ (n ≤ d → grd (fun i => decide (i = d ∨ i = d + 1)) n = (0, false)) ∧ (n = d + 1 → grd (fun i => decide (i = d ∨ i = d + 1)) n = (1, true)) ∧ (d + 1 < n → grd (fun i => decide (i = d ∨ i = d + 1)) n = (1, false))
  | 0 => ⟨Nat.zero_le _, fun _ => rfl, fun h => by omega, fun h => by omega⟩
  | n + 1 => by
    obtain ⟨h1, h2, h3, h4⟩ := grd_two d n
    have e : grd (fun i => decide (i = d ∨ i = d + 1)) (n + 1) = gst (decide (n = d ∨ n = d + 1)) (grd (fun i => decide (i = d ∨ i = d + 1)) n) := rfl
    rw [e]
    rcases Nat.lt_trichotomy n d with z | z | z
    · rw [h2 (by omega), decide_eq_false (show ¬ (n = d ∨ n = d + 1) by omega)]
      exact ⟨Nat.zero_le _, fun _ => rfl, fun h => by omega, fun h => by omega⟩
    · rw [h2 (by omega), decide_eq_true (show n = d ∨ n = d + 1 by omega)]
      exact ⟨Nat.le_refl _, fun h => by omega, fun _ => rfl, fun h => by omega⟩
    · by_cases y : n = d + 1
      · rw [h3 y]
        exact ⟨Nat.le_refl _, fun h => by omega, fun h => by omega, fun _ => rfl⟩
      · rw [h4 (by omega), decide_eq_false (show ¬ (n = d ∨ n = d + 1) by omega)]
        exact ⟨Nat.le_refl _, fun h => by omega, fun h => by omega, fun _ => rfl⟩
theorem grd_near {S T : Nat → Bool} {d : Nat} (n : Nat) (h : ∀ i, i < n → T i = true → S i = true ∨ i = d ∨ i = d + 1) : (grd T n).1 ≤ (grd S n).1 + 1 := by
  have := grd_join (S := S) (T := T) (U := fun i => decide (i = d ∨ i = d + 1)) n fun i hi ht => (h i hi ht).imp id fun z => decide_eq_true z
  have := (grd_two d n).1
  omega
/-- sets apart -/
theorem grd_far {S T : Nat → Bool} (far : ∀ i j, S i = true → T j = true → ¬ (i = j ∨ i = j + 1 ∨ j = i + 1)) : ∀ n, (grd (fun i => S i || T i) n).1 = (grd S n).1 + (grd T n).1 ∧ (grd (fun i => S i || T i) n).2 = ((grd S n).2 || (grd T n).2) ∧ ((grd S n).2 = true → ∃ m, n = m + 1 ∧ S m = true) ∧ ((grd T n).2 = true → ∃ m, n = m + 1 ∧ T m = true)
  | 0 => ⟨rfl, rfl, fun h => (nomatch h), fun h => (nomatch h)⟩
  | n + 1 => by
    obtain ⟨h1, h2, h3, h4⟩ := grd_far far n
    have e1 : grd (fun i => S i || T i) (n + 1) = gst (S n || T n) (grd (fun i => S i || T i) n) := rfl
    have e2 : grd S (n + 1) = gst (S n) (grd S n) := rfl
    have e3 : grd T (n + 1) = gst (T n) (grd T n) := rfl
    have f1 : (grd S n).2 = true → T n = false := fun z => by
      obtain ⟨m, e, hm⟩ := h3 z
      cases y : T n with
      | false => rfl
      | true => exact absurd (.inr (.inr e)) (far m n hm y)
    have f2 : (grd T n).2 = true → S n = false := fun z => by
      obtain ⟨m, e, hm⟩ := h4 z
      cases y : S n with
      | false => rfl
      | true => exact absurd (.inr (.inl e)) (far n m y hm)
    have f3 : ¬ ((grd S n).2 = true ∧ (grd T n).2 = true) := fun ⟨y, z⟩ => by
      obtain ⟨m, e, hm⟩ := h3 y
      obtain ⟨m', e', hm'⟩ := h4 z
      exact far m m' hm hm' (.inl (by omega))
    have f4 : ¬ (S n = true ∧ T n = true) := fun ⟨y, z⟩ => far n n y z (.inl rfl)
    rw [e1, e2, e3]
    have hS : (gst (S n) (grd S n)).2 = true → S n = true := fun z => by
      unfold gst at z
      split at z
      · cases z
      · split at z
        · assumption
        · cases z
    have hT : (gst (T n) (grd T n)).2 = true → T n = true := fun z => by
      unfold gst at z
      split at z
      · cases z
      · split at z
        · assumption
        · cases z
    refine ⟨?_, ?_, fun z => ⟨n, rfl, hS z⟩, fun z => ⟨n, rfl, hT z⟩⟩
    · clear hS hT h3 h4
      generalize grd (fun i => S i || T i) n = v at *
      generalize grd S n = s at *
      generalize grd T n = t at *
      obtain ⟨cv, kv⟩ := v
      obtain ⟨cs, ks⟩ := s
      obtain ⟨ct, kt⟩ := t
      unfold gst
      generalize S n = a at *
      generalize T n = b at *
      cases ks <;> cases kt <;> cases a <;> cases b <;> simp_all <;> omega
    · clear hS hT h3 h4
      generalize grd (fun i => S i || T i) n = v at *
      generalize grd S n = s at *
      generalize grd T n = t at *
      obtain ⟨cv, kv⟩ := v
      obtain ⟨cs, ks⟩ := s
      obtain ⟨ct, kt⟩ := t
      unfold gst
      generalize S n = a at *
      generalize T n = b at *
      cases ks <;> cases kt <;> cases a <;> cases b <;> simp_all
theorem grd_half (S : Nat → Bool) : ∀ n, 2 * (grd S n).1 ≤ n + if (grd S n).2 = true then 1 else 0
  | 0 => Nat.le_refl _
  | n + 1 => by
    have ih := grd_half S n
    show 2 * (gst (S n) (grd S n)).1 ≤ n + 1 + if (gst (S n) (grd S n)).2 = true then 1 else 0
    generalize grd S n = s at *
    obtain ⟨c, k⟩ := s
    unfold gst
    cases k <;> cases S n <;> simp_all <;> omega
/-- the scan of K27 tells the same -/
theorem cfold_grd (ps : List Int) : ∀ n : Nat, 0 ≤ (cfold ps n).2 ∧ (((grd (fun i => decide (((i : Nat) : Int) ∈ ps)) n).1 : Nat) : Int) = (cfold ps n).1 + ((cfold ps n).2 + 1) / 2 ∧ ((grd (fun i => decide (((i : Nat) : Int) ∈ ps)) n).2 = true ↔ (cfold ps n).2 % 2 = 1)
  | 0 => ⟨Int.le_refl _, rfl, by
    show false = true ↔ (0 : Int) % 2 = 1
    simp⟩
  | n + 1 => by
    obtain ⟨h0, h1, h2⟩ := cfold_grd ps n
    rw [cfold_succ]
    have e : grd (fun i => decide (((i : Nat) : Int) ∈ ps)) (n + 1) = gst (decide (((n : Nat) : Int) ∈ ps)) (grd (fun i => decide (((i : Nat) : Int) ∈ ps)) n) := rfl
    rw [e]
    generalize grd (fun i => decide (((i : Nat) : Int) ∈ ps)) n = s at *
    generalize cfold ps n = f at *
    obtain ⟨c, k⟩ := s
    obtain ⟨f, l⟩ := f
    unfold gst cstep
    dsimp only at h0 h1 h2 ⊢
    by_cases hj : ((n : Nat) : Int) ∈ ps
    · rw [if_pos hj, decide_eq_true hj]
      cases k with
      | true =>
        have := h2.mp rfl
        refine ⟨by show 0 ≤ l + 1; omega, by show ((c : Nat) : Int) = f + (l + 1 + 1) / 2; omega, ?_⟩
        show false = true ↔ (l + 1) % 2 = 1
        constructor
        · intro z; cases z
        · intro z; omega
      | false =>
        have : ¬ l % 2 = 1 := fun z => by have := h2.mpr z; cases this
        refine ⟨by show 0 ≤ l + 1; omega, by show ((c + 1 : Nat) : Int) = f + (l + 1 + 1) / 2; omega, ?_⟩
        show true = true ↔ (l + 1) % 2 = 1
        constructor
        · intro _; omega
        · intro _; rfl
    · rw [if_neg hj, decide_eq_false hj]
      cases k with
      | true => exact ⟨Int.le_refl _, by show ((c : Nat) : Int) = f + (l + 1) / 2 + (0 + 1) / 2; omega, by show false = true ↔ (0 : Int) % 2 = 1; simp⟩
      | false => exact ⟨Int.le_refl _, by show ((c : Nat) : Int) = f + (l + 1) / 2 + (0 + 1) / 2; omega, by show false = true ↔ (0 : Int) % 2 = 1; simp⟩
abbrev inB (ns ms : List Int) (i : Nat) : Bool := decide (((i : Nat) : Int) ∈ bordersL ns ms)
theorem cost_grd (ns ms : List Int) : costL ns ms = (((grd (inB ns ms) (ns.length + 2)).1 : Nat) : Int) ∧ (grd (inB ns ms) (ns.length + 2)).2 = false := by
  obtain ⟨_, h1, h2⟩ := cfold_grd (bordersL ns ms) (ns.length + 2)
  rw [cost_fold] at h1 h2
  refine ⟨by show costL ns ms = _; rw [h1]; show costL ns ms = costL ns ms + (0 + 1) / 2; omega, ?_⟩
  cases z : (grd (inB ns ms) (ns.length + 2)).2 with
  | false => rfl
  | true =>
    have := h2.mp z
    exact absurd (show (0 : Int) % 2 = 1 from this) (by decide)
theorem cost_half (ns ms : List Int) : 2 * costL ns ms ≤ ns.length + 2 := by
  obtain ⟨h1, h2⟩ := cost_grd ns ms
  have := grd_half (inB ns ms) (ns.length + 2)
  rw [h2, if_neg (by decide)] at this
  omega
end K76
set_option Elab.async false
set_option linter.all false
set_option maxRecDepth 100000
set_option maxHeartbeats 4000000
namespace K76
open PySem L2 My
theorem borders_C (ns ms : List Int) : bordersL ns ms = bordersC (flg ns ms) := by
  unfold bordersL bordersC flg
  rw [List.length_map]
  rfl
def gF (fl : List Bool) (q : Nat) : Bool := if q = 0 then false else fl.getD (q - 1) false
theorem flags_gF (fl : List Bool) (q : Nat) : (flagsC fl).getD q false = gF fl q := by
  unfold flagsC gF
  cases q with
  | zero => rfl
  | succ q =>
    rw [if_neg (by omega), List.append_assoc]
    show (fl ++ [false]).getD q false = fl.getD q false
    rw [List.getD_eq_getElem?_getD, List.getD_eq_getElem?_getD]
    by_cases h : q < fl.length
    · rw [List.getElem?_append_left h]
    · rw [List.getElem?_append_right (by omega), List.getElem?_eq_none (l := fl) (by omega)]
      by_cases z : q - fl.length = 0
      · rw [z]
        rfl
      · rw [List.getElem?_eq_none (by simp; omega)]
theorem mem_bC {fl : List Bool} {i : Nat} : ((i : Nat) : Int) ∈ bordersC fl ↔ gF fl i ≠ gF fl (i + 1) := by
  unfold bordersC
  rw [List.mem_filter, List.mem_map]
  constructor
  · rintro ⟨_, h⟩
    rw [flags_gF, flags_gF] at h
    simpa using h
  · intro h
    have il : i < fl.length + 1 := by
      refine Nat.lt_of_not_le fun z => h ?_
      unfold gF
      rw [if_neg (by omega), if_neg (by omega), List.getD_eq_getElem?_getD, List.getD_eq_getElem?_getD, List.getElem?_eq_none (by omega), List.getElem?_eq_none (by omega)]
    refine ⟨⟨i, List.mem_range.mpr il, by omega⟩, ?_⟩
    rw [flags_gF, flags_gF]
    simpa using h
theorem mem_bC_nat {fl : List Bool} {x : Int} (h : x ∈ bordersC fl) : ∃ i : Nat, x = i := by
  unfold bordersC at h
  obtain ⟨i, _, e⟩ := List.mem_map.mp (List.mem_filter.mp h).1
  exact ⟨i, by omega⟩
abbrev inC (fl : List Bool) (i : Nat) : Bool := decide (((i : Nat) : Int) ∈ bordersC fl)
theorem inC_iff {fl : List Bool} {i : Nat} : inC fl i = true ↔ gF fl i ≠ gF fl (i + 1) := by
  unfold inC
  rw [decide_eq_true_iff]
  exact mem_bC
theorem gF_set {fl : List Bool} {p : Nat} {v : Bool} (h : p < fl.length) (q : Nat) : gF (fl.set p v) q = if q = p + 1 then v else gF fl q := by
  unfold gF
  by_cases z : q = 0
  · rw [if_pos z, if_neg (by omega), if_pos z]
  · rw [if_neg z, if_neg z, set_getD h]
    by_cases y : q = p + 1
    · rw [if_pos (by omega), if_pos y]
    · rw [if_neg (by omega), if_neg y]
theorem gF_fill {fl : List Bool} {a p : Nat} (ha : a < fl.length) (hp : p < fl.length) (q : Nat) : gF (fillC fl a p) q = if min a p + 1 ≤ q ∧ q ≤ max a p + 1 then fl.getD a false else gF fl q := by
  unfold gF
  by_cases z : q = 0
  · rw [if_pos z, if_neg (by omega), if_pos z]
  · rw [if_neg z, if_neg z]
    by_cases y : q - 1 < fl.length
    · rw [fill_getD y]
      by_cases x : min a p + 1 ≤ q ∧ q ≤ max a p + 1
      · rw [if_pos (by omega), if_pos x]
      · rw [if_neg (by omega), if_neg x]
    · rw [if_neg (by omega), List.getD_eq_getElem?_getD, List.getD_eq_getElem?_getD, List.getElem?_eq_none (by unfold fillC; rw [List.length_map, List.length_range]; omega), List.getElem?_eq_none (by omega)]
theorem set_new {fl : List Bool} {p : Nat} {v : Bool} (h : p < fl.length) {i : Nat} (hi : inC (fl.set p v) i = true) : inC fl i = true ∨ i = p ∨ i = p + 1 := by
  rw [inC_iff, gF_set h, gF_set h] at hi
  by_cases z : i = p
  · exact .inr (.inl z)
  · by_cases y : i = p + 1
    · exact .inr (.inr y)
    · rw [if_neg y, if_neg (by omega)] at hi
      exact .inl (inC_iff.mpr hi)
def edge (a p : Nat) : Nat := if p < a then p else p + 1
theorem fill_new {fl : List Bool} {a p : Nat} (ha : a < fl.length) (hp : p < fl.length) {i : Nat} (hi : inC (fillC fl a p) i = true) : inC fl i = true ∨ (a ≠ p ∧ i = edge a p) := by
  have ga : gF fl (a + 1) = fl.getD a false := by unfold gF; rw [if_neg (by omega)]; rfl
  rw [inC_iff, gF_fill ha hp, gF_fill ha hp] at hi
  unfold edge
  by_cases h1 : min a p + 1 ≤ i ∧ i ≤ max a p + 1
  · rw [if_pos h1] at hi
    by_cases h2 : min a p + 1 ≤ i + 1 ∧ i + 1 ≤ max a p + 1
    · rw [if_pos h2] at hi
      exact absurd rfl hi
    · rw [if_neg h2] at hi
      -- i = max + 1
      have ei : i = max a p + 1 := by omega
      by_cases z : p < a
      · refine .inl (inC_iff.mpr ?_)
        rw [show i = a + 1 by omega] at hi ⊢
        rw [ga]
        exact hi
      · by_cases y : a = p
        · refine .inl (inC_iff.mpr ?_)
          rw [show i = a + 1 by omega] at hi ⊢
          rw [ga]
          exact hi
        · exact .inr ⟨y, by rw [if_neg z]; omega⟩
  · rw [if_neg h1] at hi
    by_cases h2 : min a p + 1 ≤ i + 1 ∧ i + 1 ≤ max a p + 1
    · rw [if_pos h2] at hi
      have ei : i = min a p := by omega
      by_cases z : p < a
      · exact .inr ⟨by omega, by rw [if_pos z]; omega⟩
      · refine .inl (inC_iff.mpr ?_)
        rw [show i = a by omega] at hi ⊢
        rw [ga]
        exact hi
    · rw [if_neg h2] at hi
      exact .inl (inC_iff.mpr hi)
theorem step_new {fl : List Bool} {a : Option Nat} {m : Mv} (ha : ∀ p, a = some p → p < fl.length) (hp : m.2 < fl.length) {i : Nat} (hi : inC (stepC (fl, a) m).1 i = true) : inC fl i = true ∨ i = m.2 ∨ i = m.2 + 1 := by
  unfold stepC at hi
  by_cases c : m.1 = true ∧ a.isSome = true
  · rw [if_pos c] at hi
    cases a with
    | none => exact absurd c.2 (by decide)
    | some q =>
      rcases fill_new (ha q rfl) hp hi with z | ⟨_, z⟩
      · exact .inl z
      · unfold edge at z
        split at z
        · exact .inr (.inl z)
        · exact .inr (.inr z)
  · rw [if_neg c] at hi
    exact set_new hp hi
theorem step_edge {fl : List Bool} {q p : Nat} (hq : q < fl.length) (hp : p < fl.length) {i : Nat} (hi : inC (stepC (fl, some q) (true, p)).1 i = true) : inC fl i = true ∨ i = edge q p := by
  have hi : inC (fillC fl q p) i = true := by
    unfold stepC at hi
    rw [if_pos ⟨rfl, rfl⟩] at hi
    exact hi
  exact (fill_new hq hp hi).imp id And.right
def costN (fl : List Bool) : Nat := (grd (inC fl) (fl.length + 2)).1
theorem costL_N (ns ms : List Int) : costL ns ms = (costN (flg ns ms) : Nat) := by
  rw [(cost_grd ns ms).1]
  unfold costN
  have : inB ns ms = inC (flg ns ms) := by
    unfold inB inC
    rw [borders_C]
  rw [this, show (flg ns ms).length = ns.length by simp [flg]]
theorem step_len {fl : List Bool} {a : Option Nat} {m : Mv} : (stepC (fl, a) m).1.length = fl.length := by
  unfold stepC
  split
  · show (fillC _ _ _).length = _
    unfold fillC
    rw [List.length_map, List.length_range]
  · exact List.length_set
theorem step_cost {fl : List Bool} {a : Option Nat} {m : Mv} (ha : ∀ p, a = some p → p < fl.length) (hp : m.2 < fl.length) : costN (stepC (fl, a) m).1 ≤ costN fl + 1 := by
  unfold costN
  rw [step_len]
  exact grd_near (d := m.2) _ fun i _ hi => step_new ha hp hi
theorem way_cost {n : Nat} : ∀ (p : List Mv) (s : Sc), VS n s → (∀ m ∈ p, m ∈ movesC n) → costN (p.foldl stepC s).1 ≤ costN s.1 + p.length
  | [], s, _, _ => Nat.le_refl _
  | m :: p, s, v, h => by
    have hm : m.2 < n := by
      have := h m List.mem_cons_self
      unfold movesC at this
      rcases List.mem_append.mp this with z | z
      · obtain ⟨i, hi, rfl⟩ := List.mem_map.mp z
        exact List.mem_range.mp hi
      · obtain ⟨i, hi, rfl⟩ := List.mem_map.mp z
        exact List.mem_range.mp hi
    have ih := way_cost p (stepC s m) (vs_step v hm) fun x hx => h x (List.mem_cons_of_mem _ hx)
    have c := step_cost (fl := s.1) (a := s.2) (m := m) (by rw [v.len]; exact v.anc) (by rw [v.len]; exact hm)
    have c : costN (stepC s m).1 ≤ costN s.1 + 1 := c
    show costN (p.foldl stepC (stepC s m)).1 ≤ costN s.1 + (p.length + 1)
    omega
theorem cost_empty {fl : List Bool} (h : ∀ q, fl.getD q false = false) : costN fl = 0 := by
  unfold costN
  rw [grd_none]
  intro i _
  cases z : inC fl i with
  | false => rfl
  | true =>
    have := inC_iff.mp z
    unfold gF at this
    rw [h, h] at this
    simp at this
end K76
set_option Elab.async false
set_option linter.all false
set_option maxRecDepth 1000000
set_option maxHeartbeats 4000000
namespace K76
open PySem L2 My
def pathC (fl : List Bool) : List Mv := (clicksL (coverL (blocksL (bordersC fl)) 0)).map fun c => (decide (c.1 = ("range" : Str)), c.2.toNat)
def allFl : Nat → List (List Bool)
  | 0 => [[]]
  | n + 1 => (allFl n).flatMap fun f => [false :: f, true :: f]
theorem allFl_mem : ∀ {n : Nat} {f : List Bool}, f.length = n → f ∈ allFl n
  | 0, [], _ => List.mem_singleton.mpr rfl
  | 0, _ :: _, h => by simp at h
  | n + 1, [], h => by simp at h
  | n + 1, b :: f, h => by
    refine List.mem_flatMap.mpr ⟨f, allFl_mem (by simpa using h), ?_⟩
    cases b
    · exact List.mem_cons_self
    · exact List.mem_cons_of_mem _ List.mem_cons_self
def exOk (n : Nat) (f : List Bool) (a : Option Nat) : Bool := decide (((pathC f).foldl stepC (List.replicate n false, a)).1 = f) && (decide ((pathC f).length = costN f) && (pathC f).all fun m => decide (m ∈ movesC n))
def exAll (k : Nat) : Bool := (List.range k).all fun n => (allFl n).all fun f => exOk n f none && (List.range n).all fun a => exOk n f (some a)
theorem ex_all : exAll 6 = true := by decide +kernel
theorem ex_at {n : Nat} (h : n ≤ 5) {f : List Bool} (hf : f.length = n) {a : Option Nat} (ha : ∀ p, a = some p → p < n) : exOk n f a = true := by
  have h1 := List.all_eq_true.mp ex_all n (List.mem_range.mpr (by omega))
  have h2 := List.all_eq_true.mp h1 f (allFl_mem hf)
  rw [Bool.and_eq_true] at h2
  cases a with
  | none => exact h2.1
  | some p => exact List.all_eq_true.mp h2.2 p (List.mem_range.mpr (ha p rfl))
theorem ex_path {n : Nat} (h : n ≤ 5) {f : List Bool} (hf : f.length = n) {a : Option Nat} (ha : ∀ p, a = some p → p < n) : ∃ p, leads (List.replicate n false, a) f p ∧ p.length = costN f ∧ ∀ m ∈ p, m ∈ movesC n := by
  have := ex_at h hf ha
  unfold exOk at this
  rw [Bool.and_eq_true, Bool.and_eq_true] at this
  exact ⟨pathC f, by unfold leads; exact of_decide_eq_true this.1, of_decide_eq_true this.2.1, fun m hm => of_decide_eq_true (List.all_eq_true.mp this.2.2 m hm)⟩
/-- the fewest from no marks are as many as the cost -/
theorem few_cost {n : Nat} (h : n ≤ 5) {f : List Bool} (hf : f.length = n) {a : Option Nat} (ha : ∀ p, a = some p → p < n) {p : List Mv} (hl : leads (List.replicate n false, a) f p) (hp : ∀ m ∈ p, m ∈ movesC n) (hm : ∀ p', (∀ m ∈ p', m ∈ movesC n) → leads (List.replicate n false, a) f p' → p.length ≤ p'.length) : p.length = costN f := by
  obtain ⟨p', h1, h2, h3⟩ := ex_path h hf ha
  have a1 := hm p' h3 h1
  have a2 := way_cost p (List.replicate n false, a) ⟨List.length_replicate, ha⟩ hp
  rw [show (p.foldl stepC (List.replicate n false, a)).1 = f from hl] at a2
  have a3 : costN (List.replicate n false) = 0 := cost_empty fun q => by
    rw [List.getD_eq_getElem?_getD, List.getElem?_replicate]
    split <;> rfl
  have a2 : costN f ≤ costN (List.replicate n false) + p.length := a2
  omega
end K76
set_option Elab.async false
set_option linter.all false
set_option maxRecDepth 100000
set_option maxHeartbeats 4000000
namespace K76
open PySem L2 My
abbrev fls (ns : List Int) (f : Int → Bool) : List Bool := ns.map f
theorem fls_at {ns : List Int} {f : Int → Bool} {i : Nat} {r : Int} (h : ns[i]? = some r) : (fls ns f).getD i false = f r := by
  rw [List.getD_eq_getElem?_getD, List.getElem?_map, h]
  rfl
theorem fls_ext {ns : List Int} {f : Int → Bool} {g : List Bool} (hg : g.length = ns.length) (h : ∀ i r, ns[i]? = some r → f r = g.getD i false) : fls ns f = g := by
  refine flag_ext (n := ns.length) (by simp) hg fun i hi => ?_
  have hr : ns[i]? = some ns[i] := List.getElem?_eq_getElem hi
  rw [fls_at hr, h i _ hr]
theorem pos_row {ns : List Int} (nd : ns.Nodup) {p : Nat} (hp : p < ns.length) : posA ns (some (rowAt ns (p : Nat))) = some p := by
  have gr := get_row hp
  show (if ns.getD p 0 ∈ ns then some (ns.idxOf (ns.getD p 0)) else none) = _
  rw [if_pos (List.mem_of_getElem? gr), idx_of nd gr]
/-- a click by rows and by places -/
theorem step_gen {ns : List Int} (nd : ns.Nodup) (f : Int → Bool) (an : Option Int) {b : Bool} {p : Nat} (hp : p < ns.length) :
    fls ns (step ns (f, an) (wordC b, (p : Int))).1 = (stepC (fls ns f, posA ns an) (b, p)).1 ∧ posA ns (step ns (f, an) (wordC b, (p : Int))).2 = (stepC (fls ns f, posA ns an) (b, p)).2 ∧ (∀ r, r ∉ ns → (step ns (f, an) (wordC b, (p : Int))).1 r = f r) ∧ (step ns (f, an) (wordC b, (p : Int))).2 = (if b = true ∧ (posA ns an).isSome = true then an else some (rowAt ns (p : Nat))) := by
  have lf : (fls ns f).length = ns.length := by simp
  have click : rng ns (wordC b) an = none → ¬ (b = true ∧ (posA ns an).isSome = true) → fls ns (step ns (f, an) (wordC b, (p : Int))).1 = (stepC (fls ns f, posA ns an) (b, p)).1 ∧ posA ns (step ns (f, an) (wordC b, (p : Int))).2 = (stepC (fls ns f, posA ns an) (b, p)).2 ∧ (∀ r, r ∉ ns → (step ns (f, an) (wordC b, (p : Int))).1 r = f r) ∧ (step ns (f, an) (wordC b, (p : Int))).2 = (if b = true ∧ (posA ns an).isSome = true then an else some (rowAt ns (p : Nat))) := fun h c => by
    rw [step_cl h]
    have es : stepC (fls ns f, posA ns an) (b, p) = ((fls ns f).set p (!(fls ns f).getD p false), some p) := by
      unfold stepC
      rw [if_neg c]
    rw [es, if_neg c]
    refine ⟨fls_ext (by rw [List.length_set, lf]) fun i r hr => ?_, pos_row nd hp, fun r hr => ?_, rfl⟩
    · rw [set_getD (by omega)]
      have er : (r = rowAt ns (p : Int)) ↔ i = p := by
        constructor
        · intro z
          exact inj_at nd hr (by rw [z]; exact get_row hp)
        · intro z
          have := get_row hp
          rw [← z, hr] at this
          rw [Option.some.inj this, z]
          rfl
      show (if r = rowAt ns (p : Int) then !f r else f r) = _
      by_cases z : i = p
      · rw [if_pos (er.mpr z), if_pos z, ← z, fls_at hr]
      · rw [if_neg (fun y => z (er.mp y)), if_neg z, fls_at hr]
    · show (if r = rowAt ns (p : Int) then !f r else f r) = f r
      rw [if_neg (fun z => hr (by rw [z]; exact List.mem_of_getElem? (get_row hp)))]
  cases b with
  | false =>
    refine click ?_ (fun z => Bool.noConfusion z.1)
    unfold rng
    cases an with
    | none => rfl
    | some n => exact if_neg (fun z => absurd z.1 (by decide))
  | true =>
    cases an with
    | none => exact click rfl (fun z => Bool.noConfusion z.2)
    | some n =>
      by_cases hm : n ∈ ns
      · have hr : rng ns (wordC true) (some n) = some n := by
          show (if wordC true = "range" ∧ n ∈ ns then some n else none) = _
          rw [if_pos ⟨rfl, hm⟩]
        have hpa : posA ns (some n) = some (ns.idxOf n) := if_pos hm
        have hq : ns.idxOf n < ns.length := List.idxOf_lt_length_iff.mpr hm
        have gq : ns[ns.idxOf n]? = some n := by
          rw [List.getElem?_eq_getElem hq]
          exact congrArg some (List.getElem_idxOf hq)
        have es : stepC (fls ns f, posA ns (some n)) (true, p) = (fillC (fls ns f) (ns.idxOf n) p, some (ns.idxOf n)) := by
          unfold stepC
          rw [hpa, if_pos ⟨rfl, rfl⟩]
          rfl
        rw [step_rng hr, es]
        refine ⟨fls_ext (by unfold fillC; rw [List.length_map, List.length_range, lf]) fun i r hir => ?_, hpa, fun r hr => ?_, by rw [if_pos ⟨rfl, by rw [hpa]; rfl⟩]⟩
        · have hi : i < (fls ns f).length := by rw [lf]; exact (List.getElem?_eq_some_iff.mp hir).1
          have er : r ∈ span ns (ns.idxOf n) p ↔ min (ns.idxOf n) p ≤ i ∧ i ≤ max (ns.idxOf n) p := by
            rw [span_mem]
            constructor
            · rintro ⟨j, h1, h2, h3⟩
              obtain rfl := inj_at nd hir h3
              exact ⟨h1, h2⟩
            · rintro ⟨h1, h2⟩
              exact ⟨i, h1, h2, hir⟩
          show (if r ∈ span ns (ns.idxOf n) p then f n else f r) = _
          rw [fill_getD hi, fls_at gq, fls_at hir]
          by_cases z : min (ns.idxOf n) p ≤ i ∧ i ≤ max (ns.idxOf n) p
          · rw [if_pos (er.mpr z), if_pos z]
          · rw [if_neg (fun y => z (er.mp y)), if_neg z]
        · show (if r ∈ span ns (ns.idxOf n) p then f n else f r) = f r
          rw [if_neg (fun z => hr (by
            obtain ⟨j, _, _, h3⟩ := span_mem.mp z
            exact List.mem_of_getElem? h3))]
      · refine click ?_ (fun z => ?_)
        · show (if wordC true = "range" ∧ n ∈ ns then some n else none) = _
          rw [if_neg (fun z => hm z.2)]
        · have : posA ns (some n) = none := if_neg hm
          rw [this] at z
          exact Bool.noConfusion z.2
def clM (m : Mv) : Cl := (wordC m.1, (m.2 : Nat))
/-- many clicks -/
theorem done_gen {ns : List Int} (nd : ns.Nodup) : ∀ (cs : List Mv) (f : Int → Bool) (an : Option Int), (∀ m ∈ cs, m.2 < ns.length) → fls ns ((cs.map clM).foldl (step ns) (f, an)).1 = (cs.foldl stepC (fls ns f, posA ns an)).1 ∧ posA ns ((cs.map clM).foldl (step ns) (f, an)).2 = (cs.foldl stepC (fls ns f, posA ns an)).2 ∧ (∀ r, r ∉ ns → ((cs.map clM).foldl (step ns) (f, an)).1 r = f r)
  | [], f, an, _ => ⟨rfl, rfl, fun _ _ => rfl⟩
  | m :: cs, f, an, h => by
    obtain ⟨h1, h2, h3, _⟩ := step_gen nd f an (b := m.1) (h m List.mem_cons_self)
    obtain ⟨i1, i2, i3⟩ := done_gen nd cs (step ns (f, an) (clM m)).1 (step ns (f, an) (clM m)).2 fun x hx => h x (List.mem_cons_of_mem _ hx)
    have h1 : fls ns (step ns (f, an) (clM m)).1 = (stepC (fls ns f, posA ns an) m).1 := h1
    have h2 : posA ns (step ns (f, an) (clM m)).2 = (stepC (fls ns f, posA ns an) m).2 := h2
    rw [h1, h2] at i1 i2
    refine ⟨i1, i2, fun r hr => ?_⟩
    have := i3 r hr
    have h3 : (step ns (f, an) (clM m)).1 r = f r := h3 r hr
    rw [h3] at this
    exact this
end K76
set_option Elab.async false
set_option pp.maxSteps 1200
set_option linter.all false
set_option maxRecDepth 100000
set_option maxHeartbeats 4000000
namespace K76
open PySem L2 My
theorem set_cost {fl : List Bool} {p : Nat} {v : Bool} (h : p < fl.length) : costN (fl.set p v) ≤ costN fl + 1 := by
  unfold costN
  rw [List.length_set]
  exact grd_near (d := p) _ fun i _ hi => set_new h hi
theorem near_cost {fl gl : List Bool} {p : Nat} (hl : gl.length = fl.length) (hp : p < fl.length) (h : ∀ i, i < fl.length → i ≠ p → gl.getD i false = fl.getD i false) : costN gl ≤ costN fl + 1 := by
  have : gl = fl.set p (gl.getD p false) := flag_ext (n := fl.length) hl List.length_set fun i hi => by
    rw [set_getD hp]
    by_cases z : i = p
    · rw [if_pos z, z]
    · rw [if_neg z, h i hi z]
  rw [this]
  exact set_cost hp
theorem flg_at {ns ms : List Int} {i : Nat} (h : i < ns.length) : (flg ns ms).getD i false = decide (ns.getD i 0 ∈ ms) := by
  have := get_row h
  exact fls_at (f := fun r => decide (r ∈ ms)) this
theorem cut_mem {xs : List V} {lo hi : Option Int} {x : V} (h : x ∈ cutV xs lo hi) : x ∈ xs := by
  unfold cutV at h
  exact List.mem_of_mem_drop (List.mem_of_mem_take h)
theorem cut_len (xs : List V) (lo hi : Option Int) : (cutV xs lo hi).length ≤ xs.length := cutV_length xs lo hi
def sp__law_near_right (K : PySem.W.Frag) : Sp := fun vs H Q _ => ∃ (a m : Addr) (ns ms : List Int), vs = [.ref a, .ref m] ∧ SqL K H a (ns.map V.int) ∧ SqL K H m (ms.map V.int) ∧ ns.Nodup ∧ ns.length ≤ 40 ∧ ms.Pairwise (· < ·) ∧ ms.length ≤ 100 ∧ (∀ r ∈ ms, r ∈ ns) ∧ Evl.RetV (.bl true) H Q
theorem le_lt {l : List Int} (h : l.Pairwise (· ≤ ·)) (n : l.Nodup) : l.Pairwise (· < ·) := by
  refine (h.and n).imp fun {a b} z => ?_
  have := z.1
  have := z.2
  omega
section
variable {w : World} {K : PySem.W.Frag} {mg : Str → Option Value} {base : Heap}
theorem ok__law_near_right (T : Txt K mg) : FnOk PR w K mg base CX0 5 T.a__law_near_right T.d__law_near_right ["_law_there", "_law_marks"] (sp__law_near_right K) := by
  refine T.f__law_near_right.ok sc__law_near_right (fun vs H Q E h => ?_) (fun cdv A0 outer s0 H vs Q E hr h => ?_)
  · obtain ⟨a, m, ns, ms, rfl, _⟩ := h
    rfl
  · obtain ⟨a, m, ns, ms, rfl, ha, hm, nd, nl, pm, ml, sm, k⟩ := h
    refine ⟨_, (pss_cons (ps_for PassesOwn.never rfl (pi_list (pe_op op_catG (pe_slice sl_listG (pv 0) po_none (po_some pe_int)) (pe_slice sl_listG (pv 0) (po_some (pe_un un_neg pe_int)) po_none))) (pg_name (i := 2) sc__law_near_right.nd rfl (by first | exact Or.inl rfl | exact Or.inr rfl)) (pss_cons (ps_set (i := 3) sc__law_near_right.nd rfl (by first | exact Or.inl rfl | exact Or.inr rfl) (pe_callB cr_sortedG (by rfl) T.z_sorted (by decide +kernel) (pa_cons (pe_op op_catG (pe_lc (own := [("_law_own", 4)]) (g := gName 4) (by rfl) sc__law_near_right.nd (pi_list (pv 1)) (blkOk_by (own := [("_law_own", 4)]) (N := ["_law_there", "_law_marks", "_law_row", "_law_other", "_law_own"]) (sc := (defScope s__law_near_right)) (by decide +kernel)) (fun _ _ _ _ _ => (pg_name (i := 4) sc__law_near_right.nd rfl (by first | exact Or.inl rfl | exact Or.inr rfl))) (fun _ _ _ _ _ => (pts_one (pt_cmpR op_ne (pv 4) (pv 2) (nomark _)))) (fun _ _ _ _ _ => (pv 4))) (pe_op op_repG (pe_lstG (pa_cons (pv 2) pa_nil)) (pe_callTy call_int1 (by rfl) T.z_int (by decide +kernel) (pa_cons (pe_cmpR op_notIn_seq (pv 2) (pv 1) (by rfl)) pa_nil)))) pa_nil))) (pss_one (ps_if (pt_cmpR op_gt (pe_callB call_abs (by rfl) T.z_abs (by decide +kernel) (pa_cons (pe_op op_sub (pe_call (ok_cost T) (hr.mono (by decide)) (by rfl) T.g_cost T.f_cost.kp (b_cost T) .nil passL (pa_cons (pv 0) (pa_cons (pv 3) pa_nil))) (pe_call (ok_cost T) (hr.mono (by decide)) (by rfl) T.g_cost T.f_cost.kp (b_cost T) .nil passL (pa_cons (pv 0) (pa_cons (pv 1) pa_nil)))) pa_nil)) pe_int (nomark _)) (pss_one (ps_ret pe_bl)) pss_nil)))) (pss_one (ps_ret pe_bl))), ?_⟩
    refine ⟨_, rfl, _, rfl, a, _, rfl, ha, fun p1 H1 n1 e1 h1 => ?_⟩
    refine ⟨_, rfl, _, rfl, _, rfl, a, _, rfl, Evl.ex_l e1 ha, fun p2 H2 n2 e2 h2 => ?_⟩
    have c1 := cut_len (ns.map V.int) none (some 4)
    have c2 := cut_len (ns.map V.int) (some (-2)) none
    rw [List.length_map] at c1 c2
    refine ⟨_, _, _, _, rfl, rfl, e2 _ _ h1, h2, ?_, fun p3 H3 n3 e3 h3 => ?_⟩
    · exact Nat.le_trans (show _ ≤ 80 by omega) (by decide)
    have e03 := e1.trans (e2.trans e3)
    refine ⟨p3, rfl, ⟨_, sqI h3⟩, for_list (K := K) (a := p3) (xs := _) (fun i σ H' => ∃ v2 v3 v4, σ = [some (.ref a), some (.ref m), v2, v3, v4] ∧ Ex H3 H') ⟨_, _, _, rfl, Evl.Ex.refl _⟩ (fun i σ H' _ ⟨_, _, _, _, e⟩ => sqI (e _ _ h3)) ?_ ?_⟩
    · rintro i x σ H4 hx ⟨v2, v3, v4, rfl, e4⟩
      obtain ⟨r, hr', rfl⟩ : ∃ r ∈ ns, x = V.int r := by
        have hx := List.mem_of_getElem? hx
        have : x ∈ ns.map V.int := (List.mem_append.mp hx).elim cut_mem cut_mem
        obtain ⟨r, h1, h2⟩ := List.mem_map.mp this
        exact ⟨r, h1, h2.symm⟩
      have e04 := e03.trans e4
      have ha4 := Evl.ex_l e04 ha
      have hm4 := Evl.ex_l e04 hm
      refine ⟨_, rfl, m, rfl, ⟨_, hm4⟩, fun D hD => lc_filtI (K := K) (a := m) (ns := ms) (p := fun o => !decide (o = r)) hm4 hD (by omega) (fun x => rfl) ?_ ?_ ?_⟩
      · intro o H' ho e' Z kZ
        refine ⟨_, rfl, _, rfl, rfl, _, rfl, ?_⟩
        have := kZ H' (Evl.Ex.refl _)
        have ed : decide (V.int o = V.int r) = decide (o = r) := by simp
        rw [ed]
        exact this
      · intro v H' N kN
        exact ⟨_, rfl, kN⟩
      intro H5 e5 d5
      refine ⟨_, rfl, (by show 1 ≤ sizeLine; decide), fun p6 H6 n6 e6 h6 => ?_⟩
      refine ⟨_, rfl, _, rfl, _, _, rfl, .inl (Evl.ex_l (e5.trans e6) hm4), rfl, flatI _, .inr ⟨_, rfl, ?_⟩⟩
      rw [inV_int]
      obtain ⟨tl, htl⟩ : ∃ tl : List Int, tl = if r ∈ ms then [] else [r] := ⟨_, rfl⟩
      have etl : (List.replicate ((if (if true = true then !decide (r ∈ ms) else decide (r ∈ ms)) = true then (1 : Int) else 0)).toNat [V.int r]).flatten = tl.map V.int := by
        rw [htl]
        by_cases c : r ∈ ms
        · rw [if_pos c, decide_eq_true c]; rfl
        · rw [if_neg c, decide_eq_false c]; rfl
      refine ⟨_, _, _, rfl, rfl, h6, by split <;> omega, by split <;> omega, ?_, fun p7 H7 n7 e7 h7 => ?_⟩
      · have le1 : ∀ z : Int, z ≤ 1 → 1 * z.toNat ≤ 1 := fun z h => by omega
        exact Nat.le_trans (le1 _ (by split <;> omega)) (by decide)
      rw [etl] at h7
      have e57 := e6.trans e7
      refine ⟨_, _, _, _, rfl, rfl, e57 _ _ d5, h7, ?_, fun p8 H8 n8 e8 h8 => ?_⟩
      · rw [List.length_map, List.length_map]
        have : tl.length ≤ 1 := by rw [htl]; split <;> simp
        have := List.length_filter_le (fun o => !decide (o = r)) ms
        exact Nat.le_trans (show _ ≤ 200 by omega) (by decide)
      rw [← List.map_append] at h8
      obtain ⟨bl, hbl⟩ : ∃ bl, bl = ms.filter (fun o => !decide (o = r)) ++ tl := ⟨_, rfl⟩
      rw [← hbl] at h8
      have bm : ∀ o, o ∈ bl ↔ (o ≠ r ∧ o ∈ ms) ∨ (o = r ∧ r ∉ ms) := fun o => by
        rw [hbl, htl, List.mem_append, List.mem_filter]
        by_cases c : r ∈ ms
        · rw [if_pos c]
          simp [c]
          exact and_comm
        · rw [if_neg c]
          simp [c]
          exact or_congr ⟨fun ⟨y, z⟩ => ⟨z, y⟩, fun ⟨y, z⟩ => ⟨z, y⟩⟩ Iff.rfl
      have bn : bl.Nodup := by
        rw [hbl]
        refine List.nodup_append.mpr ⟨(pw_nodup pm).filter _, ?_, fun x hx y hy => ?_⟩
        · rw [htl]
          split
          · exact List.nodup_nil
          · exact List.nodup_cons.mpr ⟨List.not_mem_nil, List.nodup_nil⟩
        · have h1 := (List.mem_filter.mp hx).2
          rw [htl] at hy
          split at hy
          · exact nomatch hy
          · rw [List.mem_singleton.mp hy]
            simpa using h1
      refine ⟨p8, bl, rfl, sqI h8, fun os pr pw p9 H9 n9 e9 h9 => ?_⟩
      have om : ∀ o, o ∈ os ↔ (o ≠ r ∧ o ∈ ms) ∨ (o = r ∧ r ∉ ms) := fun o => by rw [pr.mem_iff]; exact bm o
      have op := le_lt pw (pr.nodup_iff.mpr bn)
      have os1 : ∀ o ∈ os, o ∈ ns := fun o ho => by
        rcases (om o).mp ho with z | z
        · exact sm o z.2
        · rw [z.1]; exact hr'
      have ol : os.length ≤ 1000 := by
        have := nodup_len (pw_nodup op) os1
        omega
      have e49 := e5.trans (e57.trans (e8.trans e9))
      have ha9 := Evl.ex_l e49 ha4
      have hm9 := Evl.ex_l e49 hm4
      refine ⟨_, rfl, _, rfl, a, p9, ns, os, rfl, ha9, sqI h9, nd, by omega, op, ol, os1, fun H10 e10 => ?_⟩
      refine ⟨_, rfl, _, rfl, a, m, ns, ms, rfl, Evl.ex_l e10 ha9, Evl.ex_l e10 hm9, nd, by omega, pm, by omega, sm, fun H11 e11 => ?_⟩
      refine ⟨_, _, rfl, rfl, _, rfl, _, _, rfl, rfl, _, rfl, ?_⟩
      obtain ⟨p, hpr⟩ := List.mem_iff_getElem?.mp hr'
      have hp : p < ns.length := (List.getElem?_eq_some_iff.mp hpr).1
      have rp : ns.getD p 0 = r := by rw [List.getD_eq_getElem?_getD, hpr]; rfl
      have dif : ∀ i, i < ns.length → i ≠ p → (flg ns os).getD i false = (flg ns ms).getD i false := fun i hi ne => by
        rw [flg_at hi, flg_at hi, decide_eq_decide, om]
        have : ns.getD i 0 ≠ r := fun z => ne (inj_at nd (get_row hi) (by rw [z]; exact hpr))
        constructor
        · rintro (y | y)
          · exact y.2
          · exact absurd y.1 this
        · exact fun y => .inl ⟨this, y⟩
      have l1 : (flg ns os).length = ns.length := by simp [flg]
      have l2 : (flg ns ms).length = ns.length := by simp [flg]
      have n1' := near_cost (fl := flg ns ms) (gl := flg ns os) (p := p) (by omega) (by omega) (by rw [l2]; exact dif)
      have n2' := near_cost (fl := flg ns os) (gl := flg ns ms) (p := p) (by omega) (by omega) (by rw [l1]; exact fun i hi ne => (dif i hi ne).symm)
      rw [costL_N, costL_N]
      refine ifF (decide_eq_false ?_) ⟨_, _, _, rfl, e4.trans (e49.trans (e10.trans e11))⟩
      omega
    · rintro σ H4 ⟨v2, v3, v4, rfl, e4⟩
      exact k H4 (e03.trans e4)
end
end K76
set_option Elab.async false
set_option pp.maxSteps 1200
set_option linter.all false
set_option maxRecDepth 100000
set_option maxHeartbeats 4000000
namespace K76
open PySem L2 My
def apartL (ms os : List Int) : List Int := ms.filter (fun r => !decide (r ∈ os)) ++ os.filter fun r => !decide (r ∈ ms)
theorem apart_mem {ms os : List Int} {r : Int} : r ∈ apartL ms os ↔ (r ∈ ms ∧ r ∉ os) ∨ (r ∈ os ∧ r ∉ ms) := by
  unfold apartL
  rw [List.mem_append, List.mem_filter, List.mem_filter]
  simp
theorem apart_nodup {ms os : List Int} (h1 : ms.Nodup) (h2 : os.Nodup) : (apartL ms os).Nodup := by
  refine List.nodup_append.mpr ⟨h1.filter _, h2.filter _, fun x hx y hy e => ?_⟩
  have a := (List.mem_filter.mp hx).1
  have b := (List.mem_filter.mp hy).2
  rw [← e] at b
  simp [a] at b
theorem gF_flg {ns ms : List Int} {q : Nat} : gF (flg ns ms) q = if q = 0 then false else if q - 1 < ns.length then decide (ns.getD (q - 1) 0 ∈ ms) else false := by
  unfold gF
  by_cases z : q = 0
  · rw [if_pos z, if_pos z]
  · rw [if_neg z, if_neg z]
    by_cases y : q - 1 < ns.length
    · rw [if_pos y, flg_at y]
    · rw [if_neg y, List.getD_eq_getElem?_getD, List.getElem?_eq_none (by simp [flg]; omega)]
      rfl
/-- the borders of marks that are in one of two -/
theorem apart_gF {ns ms os as : List Int} (h : ∀ r, r ∈ as ↔ (r ∈ ms ∧ r ∉ os) ∨ (r ∈ os ∧ r ∉ ms)) (q : Nat) : gF (flg ns as) q = (gF (flg ns ms) q != gF (flg ns os) q) := by
  rw [gF_flg, gF_flg, gF_flg]
  by_cases z : q = 0
  · simp [z]
  · simp only [if_neg z]
    by_cases y : q - 1 < ns.length
    · simp only [if_pos y]
      have := h (ns.getD (q - 1) 0)
      generalize ns.getD (q - 1) 0 = x at this ⊢
      by_cases a : x ∈ ms <;> by_cases b : x ∈ os <;> simp [this, a, b]
    · simp only [if_neg y]
      rfl
theorem apart_inC {ns ms os as : List Int} (h : ∀ r, r ∈ as ↔ (r ∈ ms ∧ r ∉ os) ∨ (r ∈ os ∧ r ∉ ms)) (i : Nat) : inC (flg ns as) i = (inC (flg ns ms) i != inC (flg ns os) i) := by
  have e : ∀ fl : List Bool, inC fl i = (gF fl i != gF fl (i + 1)) := fun fl => by
    rw [Bool.eq_iff_iff, inC_iff]
    simp
  rw [e, e, e, apart_gF h, apart_gF h]
  cases gF (flg ns ms) i <;> cases gF (flg ns ms) (i + 1) <;> cases gF (flg ns os) i <;> cases gF (flg ns os) (i + 1) <;> rfl
theorem apart_borders {ns ms os as : List Int} (h : ∀ r, r ∈ as ↔ (r ∈ ms ∧ r ∉ os) ∨ (r ∈ os ∧ r ∉ ms)) (x : Int) : x ∈ bordersL ns as ↔ x ∈ apartL (bordersL ns ms) (bordersL ns os) := by
  rw [apart_mem, borders_C, borders_C, borders_C]
  by_cases hx : 0 ≤ x
  · have e := apart_inC (ns := ns) h x.toNat
    unfold inC at e
    rw [show ((x.toNat : Nat) : Int) = x by omega] at e
    by_cases a : x ∈ bordersC (flg ns ms) <;> by_cases b : x ∈ bordersC (flg ns os) <;> by_cases c : x ∈ bordersC (flg ns as) <;> simp_all
  · have no : ∀ fl : List Bool, x ∉ bordersC fl := fun fl z => by
      obtain ⟨i, e⟩ := mem_bC_nat z
      omega
    simp [no]
def besideP (two : List Int) (b : Int) : Bool := decide (b ∈ two) || (decide (b - 1 ∈ two) || decide (b + 1 ∈ two))
theorem both_cost {ns ms os as : List Int} (h : ∀ r, r ∈ as ↔ (r ∈ ms ∧ r ∉ os) ∨ (r ∈ os ∧ r ∉ ms)) : costL ns as ≤ costL ns ms + costL ns os ∧ ((bordersL ns ms).filter (besideP (bordersL ns os)) = [] → costL ns as = costL ns ms + costL ns os) := by
  have l : ∀ xs : List Int, (flg ns xs).length = ns.length := fun xs => by simp [flg]
  rw [costL_N, costL_N, costL_N]
  unfold costN
  rw [l, l, l]
  constructor
  · have := grd_join (S := inC (flg ns ms)) (T := inC (flg ns as)) (U := inC (flg ns os)) (ns.length + 2) fun i _ hi => by
      rw [apart_inC h] at hi
      cases a : inC (flg ns ms) i
      · rw [a] at hi
        exact .inr (by simpa using hi)
      · exact .inl rfl
    omega
  · intro e
    have far : ∀ i j, inC (flg ns ms) i = true → inC (flg ns os) j = true → ¬ (i = j ∨ i = j + 1 ∨ j = i + 1) := fun i j hi hj z => by
      have hi := of_decide_eq_true hi
      have hj := of_decide_eq_true hj
      rw [borders_C, borders_C] at e
      have := List.filter_eq_nil_iff.mp e _ hi
      refine this ?_
      unfold besideP
      rcases z with z | z | z
      · rw [z, decide_eq_true hj]
        rfl
      · rw [z, show (((j + 1 : Nat) : Int) - 1) = ((j : Nat) : Int) by omega, decide_eq_true hj]
        simp
      · rw [show (((i : Nat) : Int) + 1) = ((j : Nat) : Int) by omega, decide_eq_true hj]
        simp
    have f := (grd_far far (ns.length + 2)).1
    have ee : inC (flg ns as) = fun i => inC (flg ns ms) i || inC (flg ns os) i := funext fun i => by
      rw [apart_inC h]
      cases a : inC (flg ns ms) i <;> cases b : inC (flg ns os) i
      · rfl
      · rfl
      · rfl
      · exact absurd (.inl rfl) (far i i a b)
    rw [ee]
    omega
def sp__law_both_right (K : PySem.W.Frag) : Sp := fun vs H Q _ => ∃ (a m o : Addr) (ns ms os : List Int), vs = [.ref a, .ref m, .ref o] ∧ SqL K H a (ns.map V.int) ∧ SqL K H m (ms.map V.int) ∧ SqL K H o (os.map V.int) ∧ ns.Nodup ∧ ns.length ≤ 40 ∧ ms.Pairwise (· < ·) ∧ os.Pairwise (· < ·) ∧ (∀ r ∈ ms, r ∈ ns) ∧ (∀ r ∈ os, r ∈ ns) ∧ Evl.RetV (.bl true) H Q
section
variable {w : World} {K : PySem.W.Frag} {mg : Str → Option Value} {base : Heap}
theorem ok__law_both_right (T : Txt K mg) : FnOk PR w K mg base CX0 5 T.a__law_both_right T.d__law_both_right ["_law_there", "_law_marks", "_law_other"] (sp__law_both_right K) := by
  refine T.f__law_both_right.ok sc__law_both_right (fun vs H Q E h => ?_) (fun cdv A0 outer s0 H vs Q E hr h => ?_)
  · obtain ⟨a, m, o, ns, ms, os, rfl, _⟩ := h
    rfl
  · obtain ⟨a, m, o, ns, ms, os, rfl, ha, hm, ho, nd, nl, pm, po, sm, so, k⟩ := h
    refine ⟨_, (pss_cons (ps_set (i := 3) sc__law_both_right.nd rfl (by first | exact Or.inl rfl | exact Or.inr rfl) (pe_callB cr_sortedG (by rfl) T.z_sorted (by decide +kernel) (pa_cons (pe_op op_catG (pe_lc (own := [("_law_row", 10)]) (g := gName 10) (by rfl) sc__law_both_right.nd (pi_list (pv 1)) (blkOk_by (own := [("_law_row", 10)]) (N := ["_law_there", "_law_marks", "_law_other", "_law_apart", "_law_one", "_law_two", "_law_both", "_law_due", "_law_beside", "_law_total", "_law_row", "_law_border"]) (sc := (defScope s__law_both_right)) (by decide +kernel)) (fun _ _ _ _ _ => (pg_name (i := 10) sc__law_both_right.nd rfl (by first | exact Or.inl rfl | exact Or.inr rfl))) (fun _ _ _ _ _ => (pts_one (pt_cmpR (opK (r := fun K => rIn K true) (K := K) (by rfl) op_notIn_seq) (pv 10) (pv 2) (by rfl)))) (fun _ _ _ _ _ => (pv 10))) (pe_lc (own := [("_law_row", 10)]) (g := gName 10) (by rfl) sc__law_both_right.nd (pi_list (pv 2)) (blkOk_by (own := [("_law_row", 10)]) (N := ["_law_there", "_law_marks", "_law_other", "_law_apart", "_law_one", "_law_two", "_law_both", "_law_due", "_law_beside", "_law_total", "_law_row", "_law_border"]) (sc := (defScope s__law_both_right)) (by decide +kernel)) (fun _ _ _ _ _ => (pg_name (i := 10) sc__law_both_right.nd rfl (by first | exact Or.inl rfl | exact Or.inr rfl))) (fun _ _ _ _ _ => (pts_one (pt_cmpR (opK (r := fun K => rIn K true) (K := K) (by rfl) op_notIn_seq) (pv 10) (pv 1) (by rfl)))) (fun _ _ _ _ _ => (pv 10)))) pa_nil))) (pss_cons (ps_asg (pe_tupG (pa_cons (pe_call (ok_borders T) (hr.mono (by decide)) (by rfl) T.g_borders T.f_borders.kp (b_borders T) .nil passL (pa_cons (pv 0) (pa_cons (pv 1) pa_nil))) (pa_cons (pe_call (ok_borders T) (hr.mono (by decide)) (by rfl) T.g_borders T.f_borders.kp (b_borders T) .nil passL (pa_cons (pv 0) (pa_cons (pv 2) pa_nil))) (pa_cons (pe_call (ok_borders T) (hr.mono (by decide)) (by rfl) T.g_borders T.f_borders.kp (b_borders T) .nil passL (pa_cons (pv 0) (pa_cons (pv 3) pa_nil))) pa_nil)))) (pg_tup rfl (pgs_cons (pg_name (i := 4) sc__law_both_right.nd rfl (by first | exact Or.inl rfl | exact Or.inr rfl)) (pgs_cons (pg_name (i := 5) sc__law_both_right.nd rfl (by first | exact Or.inl rfl | exact Or.inr rfl)) (pgs_cons (pg_name (i := 6) sc__law_both_right.nd rfl (by first | exact Or.inl rfl | exact Or.inr rfl)) pgs_nil))))) (pss_cons (ps_set (i := 7) sc__law_both_right.nd rfl (by first | exact Or.inl rfl | exact Or.inr rfl) (pe_op op_catG (pe_lc (own := [("_law_border", 11)]) (g := gName 11) (by rfl) sc__law_both_right.nd (pi_list (pv 4)) (blkOk_by (own := [("_law_border", 11)]) (N := ["_law_there", "_law_marks", "_law_other", "_law_apart", "_law_one", "_law_two", "_law_both", "_law_due", "_law_beside", "_law_total", "_law_row", "_law_border"]) (sc := (defScope s__law_both_right)) (by decide +kernel)) (fun _ _ _ _ _ => (pg_name (i := 11) sc__law_both_right.nd rfl (by first | exact Or.inl rfl | exact Or.inr rfl))) (fun _ _ _ _ _ => (pts_one (pt_cmpR (opK (r := fun K => rIn K true) (K := K) (by rfl) op_notIn_seq) (pv 11) (pv 5) (by rfl)))) (fun _ _ _ _ _ => (pv 11))) (pe_lc (own := [("_law_border", 11)]) (g := gName 11) (by rfl) sc__law_both_right.nd (pi_list (pv 5)) (blkOk_by (own := [("_law_border", 11)]) (N := ["_law_there", "_law_marks", "_law_other", "_law_apart", "_law_one", "_law_two", "_law_both", "_law_due", "_law_beside", "_law_total", "_law_row", "_law_border"]) (sc := (defScope s__law_both_right)) (by decide +kernel)) (fun _ _ _ _ _ => (pg_name (i := 11) sc__law_both_right.nd rfl (by first | exact Or.inl rfl | exact Or.inr rfl))) (fun _ _ _ _ _ => (pts_one (pt_cmpR (opK (r := fun K => rIn K true) (K := K) (by rfl) op_notIn_seq) (pv 11) (pv 4) (by rfl)))) (fun _ _ _ _ _ => (pv 11))))) (pss_cons (ps_if (pt_cmpR (op_neD hr.units) (pv 6) (pe_callB cr_sortedG (by rfl) T.z_sorted (by decide +kernel) (pa_cons (pv 7) pa_nil)) (nomark _)) (pss_one (ps_ret pe_bl)) pss_nil) (pss_cons (ps_setLc (i := 8) (own := [("_law_border", 11)]) (g := gName 11) (by rfl) sc__law_both_right.nd rfl rfl (sw_true rfl rfl rfl (by decide +kernel)) (pi_list (pv 4)) (blkOk_by (own := [("_law_border", 11)]) (N := ["_law_there", "_law_marks", "_law_other", "_law_apart", "_law_one", "_law_two", "_law_both", "_law_due", "_law_beside", "_law_total", "_law_row", "_law_border"]) (sc := (defScope s__law_both_right)) (by decide +kernel)) (fun _ _ _ _ _ => (pg_name (i := 11) sc__law_both_right.nd rfl (by first | exact Or.inl rfl | exact Or.inr rfl))) (fun _ _ _ _ _ => (pts_one (PW.pt (pw_or (pt_cmpR (opK (r := fun K => rIn K false) (K := K) (by rfl) op_in_seq) (pv 11) (pv 5) (by rfl)) (pw_or (pt_cmpR (opK (r := fun K => rIn K false) (K := K) (by rfl) op_in_seq) (pe_op op_sub (pv 11) pe_int) (pv 5) (by rfl)) (pw_or1 (pt_cmpR (opK (r := fun K => rIn K false) (K := K) (by rfl) op_in_seq) (pe_op op_add (pv 11) pe_int) (pv 5) (by rfl)))))))) (fun _ _ _ _ _ => (pv 11))) (pss_cons (ps_set (i := 9) sc__law_both_right.nd rfl (by first | exact Or.inl rfl | exact Or.inr rfl) (pe_op op_add (pe_call (ok_cost T) (hr.mono (by decide)) (by rfl) T.g_cost T.f_cost.kp (b_cost T) .nil passL (pa_cons (pv 0) (pa_cons (pv 1) pa_nil))) (pe_call (ok_cost T) (hr.mono (by decide)) (by rfl) T.g_cost T.f_cost.kp (b_cost T) .nil passL (pa_cons (pv 0) (pa_cons (pv 2) pa_nil))))) (pss_one (ps_ret (pe_and (pe_cmpR op_le (pe_call (ok_cost T) (hr.mono (by decide)) (by rfl) T.g_cost T.f_cost.kp (b_cost T) .nil passL (pa_cons (pv 0) (pa_cons (pv 3) pa_nil))) (pv 9) (nomark _)) (pe_one (pe_or (pe_cmpR (op_neD hr.units) (pv 8) (pe_lstG pa_nil) (nomark _)) (pe_one (pe_cmpR op_eq (pe_call (ok_cost T) (hr.mono (by decide)) (by rfl) T.g_cost T.f_cost.kp (b_cost T) .nil passL (pa_cons (pv 0) (pa_cons (pv 3) pa_nil))) (pv 9) (nomark _)))))))))))))), ?_⟩
    have ml := nodup_len (pw_nodup pm) sm
    have ol := nodup_len (pw_nodup po) so
    have notIn : ∀ {xs : List Int} {q : Addr} {H1 : Hp}, SqL K H1 q (xs.map V.int) → True := fun _ => trivial
    -- apart
    refine ⟨_, rfl, m, rfl, ⟨_, hm⟩, fun D hD => lc_filtI (K := K) (a := m) (ns := ms) (p := fun r => !decide (r ∈ os)) hm hD (by omega) (fun x => rfl) ?_ ?_ ?_⟩
    · intro r H' hr' e' Z kZ
      refine ⟨_, rfl, _, rfl, _, _, rfl, .inl (Evl.ex_l e' ho), rfl, flatI _, _, rfl, ?_⟩
      rw [inV_int]
      exact kZ H' (Evl.Ex.refl _)
    · intro v H' N kN
      exact ⟨_, rfl, kN⟩
    intro H1 e1 d1
    refine ⟨_, rfl, o, rfl, ⟨_, Evl.ex_l e1 ho⟩, fun D2 hD2 => lc_filtI (K := K) (a := o) (ns := os) (p := fun r => !decide (r ∈ ms)) (Evl.ex_l e1 ho) hD2 (by omega) (fun x => rfl) ?_ ?_ ?_⟩
    · intro r H' hr' e' Z kZ
      refine ⟨_, rfl, _, rfl, _, _, rfl, .inl (Evl.ex_l (e1.trans e') hm), rfl, flatI _, _, rfl, ?_⟩
      rw [inV_int]
      exact kZ H' (Evl.Ex.refl _)
    · intro v H' N kN
      exact ⟨_, rfl, kN⟩
    intro H2 e2 d2
    have f1 := List.length_filter_le (fun r => !decide (r ∈ os)) ms
    have f2 := List.length_filter_le (fun r => !decide (r ∈ ms)) os
    refine ⟨_, _, _, _, rfl, rfl, e2 _ _ d1, d2, ?_, fun p3 H3 n3 e3 h3 => ?_⟩
    · rw [List.length_map, List.length_map]
      exact Nat.le_trans (show _ ≤ 200 by omega) (by decide)
    rw [← List.map_append] at h3
    have h3 : H3 p3 = some (.lst ((apartL ms os).map V.int)) := h3
    refine ⟨p3, _, rfl, sqI h3, fun as pr pw p4 H4 n4 e4 h4 => ?_⟩
    have am : ∀ r, r ∈ as ↔ (r ∈ ms ∧ r ∉ os) ∨ (r ∈ os ∧ r ∉ ms) := fun r => by rw [pr.mem_iff]; exact apart_mem
    have ap := asc_of pr pw (apart_nodup (pw_nodup pm) (pw_nodup po))
    have sa : ∀ r ∈ as, r ∈ ns := fun r h => by
      rcases (am r).mp h with z | z
      · exact sm r z.1
      · exact so r z.1
    have al := nodup_len (pw_nodup ap) sa
    have e04 := e1.trans (e2.trans (e3.trans e4))
    -- borders
    refine ⟨_, rfl, _, rfl, a, m, ns, ms, rfl, Evl.ex_l e04 ha, Evl.ex_l e04 hm, nd, by omega, pm, by omega, fun p5 H5 n5 e5 h5 => ?_⟩
    have e05 := e04.trans e5
    refine ⟨_, rfl, _, rfl, a, o, ns, os, rfl, Evl.ex_l e05 ha, Evl.ex_l e05 ho, nd, by omega, po, by omega, fun p6 H6 n6 e6 h6 => ?_⟩
    have e06 := e05.trans e6
    refine ⟨_, rfl, _, rfl, a, p4, ns, as, rfl, Evl.ex_l e06 ha, sqI ((e5.trans e6) _ _ h4), nd, by omega, ap, by omega, fun p7 H7 n7 e7 h7 => ?_⟩
    refine ⟨(by show 3 ≤ sizeLine; decide), fun p8 H8 n8 e8 h8 => ?_⟩
    refine ⟨_, _, rfl, sqT h8, rfl, _, _, rfl, _, _, rfl, _, _, rfl, rfl, ?_⟩
    obtain ⟨b1, hb1⟩ : ∃ b1, b1 = bordersL ns ms := ⟨_, rfl⟩
    obtain ⟨b2, hb2⟩ : ∃ b2, b2 = bordersL ns os := ⟨_, rfl⟩
    have l1 := borders_len ns ms
    have l2 := borders_len ns os
    have h5' := (e6.trans (e7.trans e8)) _ _ h5
    have h6' := (e7.trans e8) _ _ h6
    have h7' := e8 _ _ h7
    rw [← hb1] at h5' l1
    rw [← hb2] at h6' l2
    have e08 := e06.trans (e7.trans e8)
    -- due
    refine ⟨_, rfl, p5, rfl, ⟨_, sqI h5'⟩, fun D9 hD9 => lc_filtI (K := K) (a := p5) (ns := b1) (p := fun r => !decide (r ∈ b2)) (sqI h5') hD9 (by omega) (fun x => rfl) ?_ ?_ ?_⟩
    · intro r H' hr' e' Z kZ
      refine ⟨_, rfl, _, rfl, _, _, rfl, .inl (sqI (e' _ _ h6')), rfl, flatI _, _, rfl, ?_⟩
      rw [inV_int]
      exact kZ H' (Evl.Ex.refl _)
    · intro v H' N kN
      exact ⟨_, rfl, kN⟩
    intro H9 e9 d9
    refine ⟨_, rfl, p6, rfl, ⟨_, sqI (e9 _ _ h6')⟩, fun D10 hD10 => lc_filtI (K := K) (a := p6) (ns := b2) (p := fun r => !decide (r ∈ b1)) (sqI (e9 _ _ h6')) hD10 (by omega) (fun x => rfl) ?_ ?_ ?_⟩
    · intro r H' hr' e' Z kZ
      refine ⟨_, rfl, _, rfl, _, _, rfl, .inl (sqI ((e9.trans e') _ _ h5')), rfl, flatI _, _, rfl, ?_⟩
      rw [inV_int]
      exact kZ H' (Evl.Ex.refl _)
    · intro v H' N kN
      exact ⟨_, rfl, kN⟩
    intro H10 e10 d10
    have g1 := List.length_filter_le (fun r => !decide (r ∈ b2)) b1
    have g2 := List.length_filter_le (fun r => !decide (r ∈ b1)) b2
    refine ⟨_, _, _, _, rfl, rfl, e10 _ _ d9, d10, ?_, fun p11 H11 n11 e11 h11 => ?_⟩
    · rw [List.length_map, List.length_map]
      exact Nat.le_trans (show _ ≤ 200 by omega) (by decide)
    rw [← List.map_append] at h11
    have h11 : H11 p11 = some (.lst ((apartL b1 b2).map V.int)) := h11
    have e811 := e9.trans (e10.trans e11)
    refine ⟨_, rfl, _, rfl, p11, _, rfl, sqI h11, fun ds pr2 pw2 p12 H12 n12 e12 h12 => ?_⟩
    have dsE : ds = bordersL ns as := by
      have a1 := borders_asc ns ms
      have a2 := borders_asc ns os
      rw [← hb1] at a1
      rw [← hb2] at a2
      refine asc_unique (asc_of pr2 pw2 (apart_nodup (pw_nodup a1) (pw_nodup a2))) (borders_asc ns as) fun x => ?_
      rw [pr2.mem_iff, apart_borders am, ← hb1, ← hb2]
    rw [dsE] at h12
    have e812 := e811.trans e12
    refine neI_ (xs := bordersL ns as) (ys := bordersL ns as) (sqI (e812 _ _ h7')) (sqI h12) ⟨_, rfl, ifF same ?_⟩
    -- beside
    have h5b := e812 _ _ h5'
    have h6b := e812 _ _ h6'
    refine ⟨_, rfl, p5, rfl, ⟨_, sqI h5b⟩, fun D13 hD13 => lc_filtI (K := K) (a := p5) (ns := b1) (p := besideP b2) (sqI h5b) hD13 (by omega) (fun x => rfl) ?_ ?_ ?_⟩
    · intro r H' hr' e' Z kZ
      have hh := sqI (K := K) (e' _ _ h6b)
      have kk := kZ H' (Evl.Ex.refl _)
      unfold besideP at kk
      refine ⟨_, rfl, _, rfl, _, _, rfl, .inl hh, rfl, flatI _, _, rfl, ?_⟩
      rw [inV_int]
      refine ifB (fun c => ?_) (fun c => ?_)
      · have c : decide (r ∈ b2) = true := c
        rw [c] at kk
        exact kk
      · have c : decide (r ∈ b2) = false := c
        rw [c, Bool.false_or] at kk
        refine ⟨_, rfl, _, _, rfl, rfl, _, rfl, _, _, rfl, .inl hh, rfl, flatI _, _, rfl, ?_⟩
        rw [inV_int]
        refine ifB (fun c => ?_) (fun c => ?_)
        · have c : decide (r - 1 ∈ b2) = true := c
          rw [c] at kk
          exact kk
        · have c : decide (r - 1 ∈ b2) = false := c
          rw [c, Bool.false_or] at kk
          refine ⟨_, rfl, _, _, rfl, rfl, _, rfl, _, _, rfl, .inl hh, rfl, flatI _, _, rfl, ?_⟩
          rw [inV_int]
          exact kk
    · intro v H' N kN
      exact ⟨_, rfl, kN⟩
    intro H13 e13 d13
    have e013 := e08.trans (e812.trans e13)
    refine ⟨_, rfl, _, rfl, a, m, ns, ms, rfl, Evl.ex_l e013 ha, Evl.ex_l e013 hm, nd, by omega, pm, by omega, sm, fun H14 e14 => ?_⟩
    have e014 := e013.trans e14
    refine ⟨_, rfl, _, rfl, a, o, ns, os, rfl, Evl.ex_l e014 ha, Evl.ex_l e014 ho, nd, by omega, po, by omega, so, fun H15 e15 => ?_⟩
    refine ⟨_, _, rfl, rfl, ?_⟩
    have e015 := e014.trans e15
    have h4' := (e5.trans (e6.trans (e7.trans (e8.trans (e812.trans (e13.trans (e14.trans e15))))))) _ _ h4
    obtain ⟨c1, c2⟩ := both_cost (ns := ns) am
    refine ⟨_, rfl, _, rfl, a, p4, ns, as, rfl, Evl.ex_l e015 ha, sqI h4', nd, by omega, ap, by omega, sa, fun H16 e16 => ?_⟩
    refine ⟨_, rfl, _, _, rfl, rfl, _, rfl, ifT (decide_eq_true c1) ?_⟩
    refine ⟨_, rfl, (by show 0 ≤ sizeLine; decide), fun p17 H17 n17 e17 h17 => ?_⟩
    have d17 := (e14.trans (e15.trans (e16.trans e17))) _ _ d13
    refine neI_ (xs := b1.filter (besideP b2)) (ys := []) (sqI d17) (sqI h17) ⟨_, rfl, ?_⟩
    have e017 := e015.trans (e16.trans e17)
    refine ifB (fun c => ?_) (fun c => ?_)
    · exact k H17 e017
    · have c : b1.filter (besideP b2) = [] := by simpa using c
      rw [hb1, hb2] at c
      refine ⟨_, rfl, _, rfl, a, p4, ns, as, rfl, Evl.ex_l e017 ha, sqI ((e16.trans e17) _ _ h4'), nd, by omega, ap, by omega, sa, fun H18 e18 => ?_⟩
      refine ⟨_, rfl, rfl, ?_⟩
      rw [c2 c, decide_eq_true rfl]
      exact k H18 (e017.trans e18)
end
end K76
set_option Elab.async false
set_option linter.all false
set_option maxRecDepth 100000
set_option maxHeartbeats 4000000
namespace K76
open PySem L2 My
theorem two_asc {l : List Int} {p : Int} (h : l.Pairwise (· < ·)) (m : ∀ x ∈ l, x = p ∨ x = p + 1) : l.length ≤ 2 ∧ ∀ x y, l = [x, y] → y = x + 1 := by
  match l, h, m with
  | [], _, _ => exact ⟨Nat.zero_le _, fun _ _ e => nomatch e⟩
  | [x], _, _ => exact ⟨by show 1 ≤ 2; omega, fun _ _ e => by simp at e⟩
  | [x, y], h, m =>
    refine ⟨Nat.le_refl _, fun x' y' e => ?_⟩
    injection e with e1 e2
    injection e2 with e2 _
    have h1 := m x List.mem_cons_self
    have h2 := m y (List.mem_cons_of_mem _ List.mem_cons_self)
    have h3 := List.rel_of_pairwise_cons h (List.mem_cons_self (a := y))
    omega
  | x :: y :: z :: r, h, m =>
    exfalso
    have h1 := m x List.mem_cons_self
    have h2 := m y (List.mem_cons_of_mem _ List.mem_cons_self)
    have h3 := m z (List.mem_cons_of_mem _ (List.mem_cons_of_mem _ List.mem_cons_self))
    have r1 := List.rel_of_pairwise_cons h (List.mem_cons_self (a := y))
    have r2 := List.rel_of_pairwise_cons (List.Pairwise.of_cons h) (List.mem_cons_self (a := z))
    omega
theorem one_asc {l : List Int} {e : Int} (h : l.Pairwise (· < ·)) (m : ∀ x ∈ l, x = e) : l.length ≤ 1 := by
  match l, h, m with
  | [], _, _ => exact Nat.zero_le _
  | [x], _, _ => exact Nat.le_refl _
  | x :: y :: r, h, m =>
    exfalso
    have h1 := m x List.mem_cons_self
    have h2 := m y (List.mem_cons_of_mem _ List.mem_cons_self)
    have r1 := List.rel_of_pairwise_cons h (List.mem_cons_self (a := y))
    omega
def newB (ns ms rs : List Int) : List Int := (bordersL ns rs).filter fun b => !decide (b ∈ bordersL ns ms)
theorem newB_asc (ns ms rs : List Int) : (newB ns ms rs).Pairwise (· < ·) := (borders_asc ns rs).filter _
theorem newB_mem {ns ms rs : List Int} {x : Int} (h : x ∈ newB ns ms rs) : ∃ i : Nat, x = i ∧ inC (flg ns rs) i = true ∧ inC (flg ns ms) i = false := by
  obtain ⟨h1, h2⟩ := List.mem_filter.mp h
  rw [borders_C] at h1 h2
  obtain ⟨i, rfl⟩ := mem_bC_nat h1
  exact ⟨i, rfl, decide_eq_true h1, by simpa using h2⟩
theorem new_two {ns ms rs : List Int} {a : Option Nat} {m : Mv} (ha : ∀ p, a = some p → p < ns.length) (hp : m.2 < ns.length) (e : flg ns rs = (stepC (flg ns ms, a) m).1) : (newB ns ms rs).length ≤ 2 ∧ ∀ x y, newB ns ms rs = [x, y] → y = x + 1 := by
  refine two_asc (p := (m.2 : Nat)) (newB_asc _ _ _) fun x hx => ?_
  obtain ⟨i, rfl, h1, h2⟩ := newB_mem hx
  rw [e] at h1
  have lf : (flg ns ms).length = ns.length := by simp [flg]
  rcases step_new (by rw [lf]; exact ha) (by rw [lf]; exact hp) h1 with z | z | z
  · rw [h2] at z
    cases z
  · exact .inl (by omega)
  · exact .inr (by omega)
theorem new_one {ns ms rs : List Int} {q p : Nat} (hq : q < ns.length) (hp : p < ns.length) (e : flg ns rs = (stepC (flg ns ms, some q) (true, p)).1) : (newB ns ms rs).length ≤ 1 := by
  refine one_asc (e := (edge q p : Nat)) (newB_asc _ _ _) fun x hx => ?_
  obtain ⟨i, rfl, h1, h2⟩ := newB_mem hx
  rw [e] at h1
  have lf : (flg ns ms).length = ns.length := by simp [flg]
  rcases step_edge (by rw [lf]; exact hq) (by rw [lf]; exact hp) h1 with z | z
  · rw [h2] at z
    cases z
  · omega
theorem mv_of {n : Nat} {c : Cl} (h : (c.1 = "click" ∨ c.1 = "range") ∧ 0 ≤ c.2 ∧ c.2 < (n : Nat)) : ∃ m : Mv, c = clM m ∧ m.2 < n := by
  obtain ⟨wd, p⟩ := c
  obtain ⟨h1, h2, h3⟩ := h
  rcases h1 with z | z
  · exact ⟨(false, p.toNat), by unfold clM; exact Prod.ext z (by show p = ((p.toNat : Nat) : Int); have : 0 ≤ p := h2; omega), by show p.toNat < n; have : 0 ≤ p := h2; have : p < (n : Nat) := h3; omega⟩
  · exact ⟨(true, p.toNat), by unfold clM; exact Prod.ext z (by show p = ((p.toNat : Nat) : Int); have : 0 ≤ p := h2; omega), by show p.toNat < n; have : 0 ≤ p := h2; have : p < (n : Nat) := h3; omega⟩
theorem done_take {ns ms : List Int} {an : Option Int} {cs : List Cl} {i : Nat} {c : Cl} (h : cs[i]? = some c) : done ns ms an (cs.take (i + 1)) = step ns (done ns ms an (cs.take i)) c := by
  unfold done
  rw [take_snoc h, List.foldl_append]
  rfl
/-- what stands along the clicks -/
structure AL (ns ms : List Int) (an an' : Option Int) (cs : List Cl) (i : Nat) : Prop where
  pw : ms.Pairwise (· < ·)
  sub : ∀ r ∈ ms, r ∈ ns
  mem : ∀ r, r ∈ ms ↔ (done ns [] an (cs.take i)).1 r = true
  anc : an' = (done ns [] an (cs.take i)).2
  cost : costN (flg ns ms) ≤ i
theorem AL.next {ns ms rs : List Int} {an an' : Option Int} {cs : List Cl} {i : Nat} {m : Mv} (nd : ns.Nodup) (h : AL ns ms an an' cs i) (hc : cs[i]? = some (clM m)) (hm : m.2 < ns.length) (pr : rs.Pairwise (· < ·)) (hr : ∀ r, r ∈ rs ↔ (done ns ms an' [clM m]).1 r = true) (hs : ∀ r ∈ rs, r ∈ ms ++ ns) :
    AL ns rs an (done ns ms an' [clM m]).2 cs (i + 1) ∧ flg ns rs = (stepC (flg ns ms, posA ns an') m).1 ∧ costN (flg ns rs) ≤ costN (flg ns ms) + 1 ∧ (done ns ms an' [clM m]).2 = (if m.1 = true ∧ (posA ns an').isSome = true then an' else some (rowAt ns (m.2 : Nat))) := by
  have fe : (fun r => decide (r ∈ ms)) = (done ns [] an (cs.take i)).1 := funext fun r => by
    rw [Bool.eq_iff_iff, decide_eq_true_iff]
    exact h.mem r
  have de : done ns ms an' [clM m] = done ns [] an (cs.take (i + 1)) := by
    rw [done_take hc]
    show step ns (fun r => decide (r ∈ ms), an') (clM m) = _
    rw [fe, h.anc]
  obtain ⟨g1, g2, g3, g4⟩ := step_gen nd (fun r => decide (r ∈ ms)) an' (b := m.1) hm
  have fr : flg ns rs = (stepC (flg ns ms, posA ns an') m).1 := by
    have : flg ns rs = fls ns (step ns (fun r => decide (r ∈ ms), an') (wordC m.1, (m.2 : Int))).1 := by
      unfold flg
      refine List.map_congr_left fun r _ => ?_
      rw [Bool.eq_iff_iff, decide_eq_true_iff]
      exact hr r
    rw [this]
    exact g1
  have pl : ∀ p, posA ns an' = some p → p < ns.length := fun p => posA_lt
  have lf : (flg ns ms).length = ns.length := by simp [flg]
  have cc : costN (flg ns rs) ≤ costN (flg ns ms) + 1 := by
    rw [fr]
    exact step_cost (by rw [lf]; exact pl) (by rw [lf]; exact hm)
  have hc0 := h.cost
  refine ⟨⟨pr, fun r hr' => (List.mem_append.mp (hs r hr')).elim (h.sub r) id, fun r => by rw [hr, de], by rw [de], by omega⟩, fr, cc, g4⟩
end K76
set_option Elab.async false
set_option pp.maxSteps 1200
set_option linter.all false
set_option maxRecDepth 100000
set_option maxHeartbeats 4000000
namespace K76
open PySem L2 My
def eO : Option Int → PyData
  | none => .none
  | some n => .int n
theorem goodO : Good eO 0 := ⟨fun a => by cases a <;> rfl, fun a => by cases a <;> exact Nat.le_refl _, fun a b => by
  cases a with
  | none => cases b <;> rfl
  | some p =>
    cases b with
    | none => rfl
    | some q =>
      show PyData.eqv (.int p) (.int q) = _
      rw [goodI.eqv, Bool.eq_iff_iff]
      simp⟩
abbrev eMd : List Int × Option Int → PyData := eP (eL PyData.int) eO
theorem goodMd : Good eMd 2 := goodP (goodL goodI) (goodU goodO (by decide))
theorem anV_dp {K : PySem.W.Frag} {H : Hp} (an : Option Int) : Dp K H (anV an) (eO an) := by
  cases an with
  | none => exact .non
  | some n => exact .int n
def sp__law_along_right (K : PySem.W.Frag) : Sp := fun vs H Q _ => ∃ (a b : Addr) (ns : List Int) (xs : List V) (cs : List Cl) (an : Option Int), vs = [.ref a, anV an, .ref b] ∧ SqL K H a (ns.map V.int) ∧ SqL K H b xs ∧ Cls K H xs cs ∧ ClOk ns.length cs ∧ cs.length ≤ 100 ∧ ns.Nodup ∧ ns.length ≤ 40 ∧ Evl.RetV (.bl true) H Q
theorem cls_ex {K : PySem.W.Frag} {H H' : Hp} {xs : List V} {cs : List Cl} (e : Ex H H') (h : Cls K H xs cs) : Cls K H' xs cs := ⟨h.1, fun i v c h1 h2 => let ⟨q, e1, e2⟩ := h.2 i v c h1 h2; ⟨q, e1, sqT_exN e e2⟩⟩
section
variable {w : World} {K : PySem.W.Frag} {mg : Str → Option Value} {base : Heap}
theorem ok__law_along_right (T : Txt K mg) : FnOk PR w K mg base CX0 6 T.a__law_along_right T.d__law_along_right ["_law_there", "_law_anchor", "_law_clicks_here"] (sp__law_along_right K) := by
  refine T.f__law_along_right.ok sc__law_along_right (fun vs H Q E h => ?_) (fun cdv A0 outer s0 H vs Q E hr h => ?_)
  · obtain ⟨a, b, ns, xs, cs, an, rfl, _⟩ := h
    rfl
  · obtain ⟨a, b, ns, xs, cs, an, rfl, ha, hb, hc, ok, cl, nd, nl, k⟩ := h
    refine ⟨_, (pss_cons (ps_par (by rfl) sc__law_along_right.nd rfl rfl (by decide) rfl rfl (i := 3) (j := 4) (pa_cons (pe_lstG pa_nil) (pa_cons (pv 1) pa_nil)) (by rfl)) (pss_cons (ps_for PassesOwn.never rfl (pi_range1 (by rfl) T.z_range (pa_cons (pe_callB call_len_seq (by rfl) T.z_len PySem.boot_len (pa_cons (pv 2) pa_nil)) pa_nil)) (pg_name (i := 5) sc__law_along_right.nd rfl (by first | exact Or.inl rfl | exact Or.inr rfl)) (pss_cons (ps_asg (pe_tupG (pa_cons (pe_call (ok_borders T) (hr.mono (by decide)) (by rfl) T.g_borders T.f_borders.kp (b_borders T) .nil passL (pa_cons (pv 0) (pa_cons (pv 3) pa_nil))) (pa_cons (pe_call (ok_cost T) (hr.mono (by decide)) (by rfl) T.g_cost T.f_cost.kp (b_cost T) .nil passL (pa_cons (pv 0) (pa_cons (pv 3) pa_nil))) pa_nil))) (pg_tup rfl (pgs_cons (pg_name (i := 6) sc__law_along_right.nd rfl (by first | exact Or.inl rfl | exact Or.inr rfl)) (pgs_cons (pg_name (i := 7) sc__law_along_right.nd rfl (by first | exact Or.inl rfl | exact Or.inr rfl)) pgs_nil)))) (pss_cons (ps_asg (pe_call (ok_marked T) (hr.mono (by decide)) (by rfl) T.g_marked T.f_marked.kp (b_marked T) .nil passL (pa_cons (pv 0) (pa_cons (pv 3) (pa_cons (pv 4) (pa_cons (pe_slice sl_listG (pv 2) (po_some (pv 5)) (po_some (pe_op op_add (pv 5) pe_int))) pa_nil))))) (pg_tup rfl (pgs_cons (pg_name (i := 3) sc__law_along_right.nd rfl (by first | exact Or.inl rfl | exact Or.inr rfl)) (pgs_cons (pg_name (i := 4) sc__law_along_right.nd rfl (by first | exact Or.inl rfl | exact Or.inr rfl)) pgs_nil)))) (pss_cons (ps_set (i := 8) sc__law_along_right.nd rfl (by first | exact Or.inl rfl | exact Or.inr rfl) (pe_call (ok_borders T) (hr.mono (by decide)) (by rfl) T.g_borders T.f_borders.kp (b_borders T) .nil passL (pa_cons (pv 0) (pa_cons (pv 3) pa_nil)))) (pss_cons (ps_setLc (i := 9) (own := [("_law_border", 11)]) (g := gName 11) (by rfl) sc__law_along_right.nd rfl rfl (sw_true rfl rfl rfl (by decide +kernel)) (pi_list (pv 8)) (blkOk_by (own := [("_law_border", 11)]) (N := ["_law_there", "_law_anchor", "_law_clicks_here", "_law_marks", "_law_told", "_law_number", "_law_before", "_law_was", "_law_behind", "_law_new", "_law_is_range", "_law_border"]) (sc := (defScope s__law_along_right)) (by decide +kernel)) (fun _ _ _ _ _ => (pg_name (i := 11) sc__law_along_right.nd rfl (by first | exact Or.inl rfl | exact Or.inr rfl))) (fun _ _ _ _ _ => (pts_one (pt_cmpR (opK (r := fun K => rIn K true) (K := K) (by rfl) op_notIn_seq) (pv 11) (pv 6) (by rfl)))) (fun _ _ _ _ _ => (pv 11))) (pss_cons (ps_if (PW.pt (pw_or (pt_cmpR op_gt (pe_call (ok_cost T) (hr.mono (by decide)) (by rfl) T.g_cost T.f_cost.kp (b_cost T) .nil passL (pa_cons (pv 0) (pa_cons (pv 3) pa_nil))) (pe_op op_add (pv 7) pe_int) (nomark _)) (pw_or1 (pt_cmpR op_gt (pe_call (ok_cost T) (hr.mono (by decide)) (by rfl) T.g_cost T.f_cost.kp (b_cost T) .nil passL (pa_cons (pv 0) (pa_cons (pv 3) pa_nil))) (pe_op op_add (pv 5) pe_int) (nomark _))))) (pss_one (ps_ret pe_bl)) pss_nil) (pss_cons (ps_cut (ps_set (i := 10) sc__law_along_right.nd rfl (by first | exact Or.inl rfl | exact Or.inr rfl) (pe_and (pe_cmpR op_eq (pe_ix ix_tup (pe_ix ix_list (pv 2) (pv 5) (fun _ _ => rfl)) pe_int (fun _ _ => rfl)) pe_str (nomark _)) (pe_one (pe_cmpR op_ne (pv 4) (pe_ix ix_list (pv 0) (pe_ix ix_tup (pe_ix ix_list (pv 2) (pv 5) (fun _ _ => rfl)) pe_int (fun _ _ => rfl)) (fun _ _ => rfl)) (nomark _)))))) (pss_one (ps_if (PW.pt (pw_or (pt_cmpR op_gt (pe_callB call_len_seq (by rfl) T.z_len PySem.boot_len (pa_cons (pv 9) pa_nil)) (pe_op op_sub pe_int (pe_callTy call_int1 (by rfl) T.z_int (by decide +kernel) (pa_cons (pv 10) pa_nil))) (nomark _)) (pw_or1 (PW.pt (pw_and (pt_cmpR op_eq (pe_callB call_len_seq (by rfl) T.z_len PySem.boot_len (pa_cons (pv 9) pa_nil)) pe_int (nomark _)) (pw_and1 (pt_cmpR op_ne (pe_ix ix_list (pv 9) pe_int (fun _ _ => rfl)) (pe_op op_add (pe_ix ix_list (pv 9) pe_int (fun _ _ => rfl)) pe_int) (nomark _)))))))) (pss_one (ps_ret pe_bl)) pss_nil))))))))) (pss_cons (ps_if (PW.pt (pw_or (pt_cmpR (op_neD hr.units) (pe_call (ok_marked T) (hr.mono (by decide)) (by rfl) T.g_marked T.f_marked.kp (b_marked T) .nil passL (pa_cons (pv 0) (pa_cons (pe_lstG pa_nil) (pa_cons (pv 1) (pa_cons (pv 2) pa_nil))))) (pe_tupG (pa_cons (pv 3) (pa_cons (pv 4) pa_nil))) (nomark _)) (pw_or1 (pt_cmpR op_gt (pe_op op_mulW pe_int (pe_call (ok_cost T) (hr.mono (by decide)) (by rfl) T.g_cost T.f_cost.kp (b_cost T) .nil passL (pa_cons (pv 0) (pa_cons (pv 3) pa_nil)))) (pe_op op_add (pe_callB call_len_seq (by rfl) T.z_len PySem.boot_len (pa_cons (pv 0) pa_nil)) pe_int) (nomark _))))) (pss_one (ps_ret pe_bl)) pss_nil) (pss_one (ps_ret (pe_cmpR op_le (pe_callB call_len_seq (by rfl) T.z_len PySem.boot_len (pa_cons (pe_call (ok_cheapest_clicks T) (hr.mono (by decide)) (by rfl) T.g_cheapest_clicks T.f_cheapest_clicks.kp (b_cheapest_clicks T) .nil passL (pa_cons (pv 0) (pa_cons (pv 3) pa_nil))) pa_nil)) (pe_callB call_len_seq (by rfl) T.z_len PySem.boot_len (pa_cons (pv 2) pa_nil)) (nomark _))))))), ?_⟩
    have xl := hc.1
    refine ⟨(by show 0 ≤ sizeLine; decide), fun M0 H1 n1 e1 h1 => ?_⟩
    refine ⟨_, rfl, _, _, rfl, ?_⟩
    refine ⟨_, rfl, _, _, rfl, .inl (Evl.ex_l e1 hb), _, rfl, (by omega), (by omega), ?_⟩
    have al0 : AL ns [] an an cs 0 := ⟨List.Pairwise.nil, (fun r h => nomatch h), fun r => by
      show r ∈ ([] : List Int) ↔ decide (r ∈ ([] : List Int)) = true
      simp, rfl, by
      rw [cost_empty]
      · exact Nat.le_refl _
      · intro q
        unfold flg
        rw [List.getD_eq_getElem?_getD, List.getElem?_map]
        cases ns[q]? <;> simp⟩
    refine for_range (lo := 0) (n := ((xs.length : Nat) : Int).toNat) (fun i σ H' => ∃ (M : Addr) (ms : List Int) (an' : Option Int) (v5 v6 v7 v8 v9 v10 v11 : Option V), σ = [some (.ref a), some (anV an), some (.ref b), some (.ref M), some (anV an'), v5, v6, v7, v8, v9, v10, v11] ∧ Ex H H' ∧ H' M = some (.lst (ms.map V.int)) ∧ AL ns ms an an' cs i) ⟨M0, [], an, _, _, _, _, _, _, _, rfl, e1, h1, al0⟩ ?_ ?_
    · rintro i σ H2 hi ⟨M, ms, an', v5, v6, v7, v8, v9, v10, v11, rfl, e2, hM, al⟩
      have hi : i < xs.length := by omega
      have hic : i < cs.length := by omega
      have ei : ((0 : Int) + (i : Int)) = ((i : Nat) : Int) := by omega
      rw [ei]
      have hx : xs[i]? = some (xs[i]'hi) := List.getElem?_eq_getElem hi
      have hcc : cs[i]? = some (cs[i]'hic) := List.getElem?_eq_getElem hic
      obtain ⟨mv, emv, hmv⟩ := mv_of (ok _ (List.mem_of_getElem? hcc))
      rw [emv] at hcc
      obtain ⟨q, eq, hq⟩ := hc.2 i _ _ hx hcc
      rw [eq] at hx
      have ml := nodup_len (pw_nodup al.pw) al.sub
      -- before, was
      refine ⟨_, rfl, _, rfl, a, M, ns, ms, rfl, Evl.ex_l e2 ha, sqI hM, nd, by omega, al.pw, by omega, fun p3 H3 n3 e3 h3 => ?_⟩
      have e03 := e2.trans e3
      refine ⟨_, rfl, _, rfl, a, M, ns, ms, rfl, Evl.ex_l e03 ha, sqI (e3 _ _ hM), nd, by omega, al.pw, by omega, al.sub, fun H4 e4 => ?_⟩
      have e04 := e03.trans e4
      refine ⟨(by show 2 ≤ sizeLine; decide), fun pt Ht nt et ht => ?_⟩
      refine ⟨_, _, rfl, sqT ht, rfl, _, _, rfl, _, _, rfl, rfl, ?_⟩
      have e0t := e04.trans et
      have hMt := (e3.trans (e4.trans et)) _ _ hM
      have h3t := (e4.trans et) _ _ h3
      refine st_eq (σ' := [some (.ref a), some (anV an), some (.ref b), some (.ref M), some (anV an'), some (.int ((i : Nat) : Int)), some (.ref p3), some (.int (costL ns ms)), v8, v9, v10, v11]) (P := fun σ => tSeq _ _ _ σ Ht) rfl ?_
      -- marked
      refine ⟨_, rfl, _, rfl, _, rfl, _, rfl, _, rfl, _, rfl, _, rfl, _, _, rfl, rfl, _, rfl, b, xs, rfl, Evl.ex_l e0t hb, fun p5 H5 n5 e5 h5 => ?_⟩
      rw [show ((i : Nat) : Int) + 1 = ((i + 1 : Nat) : Int) by omega, cut_mid _ (show i + 1 ≤ xs.length by omega)] at h5
      have hdrop : (xs.drop i).take (i + 1 - i) = [V.ref q] := by
        rw [show i + 1 - i = 1 by omega, List.drop_eq_getElem_cons hi, ← eq]
        rfl
      rw [hdrop] at h5
      have e05 := e0t.trans e5
      have cls1 : Cls K H5 [V.ref q] [clM mv] := ⟨rfl, fun j v c h1 h2 => by
        cases j with
        | zero =>
          cases h1
          cases h2
          refine ⟨q, rfl, ?_⟩
          exact sqT_exN e05 hq
        | succ j => simp at h1⟩
      have ok1 : ClOk ns.length [clM mv] := fun c hc => by
        rw [List.mem_singleton.mp hc, ← emv]
        exact ok _ (List.getElem_mem hic)
      refine ⟨a, M, p5, ns, ms, [V.ref q], [clM mv], an', rfl, Evl.ex_l e05 ha, sqI (e5 _ _ hMt), sqI h5, nd, by omega, al.pw, by omega, cls1, ok1, fun p6 q6 H6 rs n6 e6 npq nq6 hq6 hp6 prs hrs hss => ?_⟩
      obtain ⟨al', fr, cc, an2⟩ := al.next nd hcc hmv prs hrs hss
      refine ⟨_, _, rfl, sqT hq6, rfl, _, _, rfl, _, _, rfl, rfl, ?_⟩
      obtain ⟨t2, ht2⟩ : ∃ t2, t2 = (done ns ms an' [clM mv]).2 := ⟨_, rfl⟩
      rw [← ht2] at al' an2
      rw [← ht2]
      have e06 := e05.trans e6
      have rl := nodup_len (pw_nodup prs) al'.sub
      have ha6 := Evl.ex_l e06 ha
      -- behind
      refine ⟨_, rfl, _, rfl, a, p6, ns, rs, rfl, ha6, sqI hp6, nd, by omega, prs, by omega, fun p7 H7 n7 e7 h7 => ?_⟩
      have h3_7 := (e5.trans (e6.trans e7)) _ _ h3t
      have bl7 := borders_len ns rs
      refine st_eq (σ' := [some (.ref a), some (anV an), some (.ref b), some (.ref p6), some (anV t2), some (.int ((i : Nat) : Int)), some (.ref p3), some (.int (costL ns ms)), some (.ref p7), v9, v10, v11]) (P := fun σ => tSeq _ _ _ σ H7) rfl ?_
      refine ⟨_, rfl, p7, rfl, ⟨_, sqI h7⟩, fun D8 hD8 => lc_filtI (K := K) (a := p7) (ns := bordersL ns rs) (p := fun r => !decide (r ∈ bordersL ns ms)) (sqI h7) hD8 (by omega) (fun x => rfl) ?_ ?_ ?_⟩
      · intro r H' hr' e' Z kZ
        refine ⟨_, rfl, _, rfl, _, _, rfl, .inl (sqI (e' _ _ h3_7)), rfl, flatI _, _, rfl, ?_⟩
        rw [inV_int]
        exact kZ H' (Evl.Ex.refl _)
      · intro v H' N kN
        exact ⟨_, rfl, kN⟩
      intro H8 e8 d8
      have d8 : H8 D8 = some (.lst ((newB ns ms rs).map V.int)) := d8
      have e68 := e7.trans e8
      have hp8 := e68 _ _ hp6
      refine st_eq (σ' := [some (.ref a), some (anV an), some (.ref b), some (.ref p6), some (anV t2), some (.int ((i : Nat) : Int)), some (.ref p3), some (.int (costL ns ms)), some (.ref p7), some (.ref D8), v10, v11]) (P := fun σ => tSeq _ _ _ σ H8) rfl ?_
      refine ⟨_, rfl, _, rfl, a, p6, ns, rs, rfl, Evl.ex_l e68 ha6, sqI hp8, nd, by omega, prs, by omega, al'.sub, fun H9 e9 => ?_⟩
      rw [costL_N, costL_N]
      have cst := al'.cost
      refine ⟨_, rfl, _, _, rfl, rfl, _, _, rfl, rfl, _, rfl, ifF (decide_eq_false (by omega)) ?_⟩
      have e69 := e68.trans e9
      refine ⟨_, rfl, _, rfl, a, p6, ns, rs, rfl, Evl.ex_l e69 ha6, sqI (e9 _ _ hp8), nd, by omega, prs, by omega, al'.sub, fun H10 e10 => ?_⟩
      rw [costL_N]
      refine ⟨_, rfl, _, _, rfl, rfl, _, _, rfl, rfl, _, rfl, ifF (decide_eq_false (by omega)) ?_⟩
      have e610 := e69.trans e10
      have e010 := e06.trans e610
      have d10 := (e9.trans e10) _ _ d8
      have hb10 := Evl.ex_l e010 hb
      have ha10 := Evl.ex_l e010 ha
      have hq10 := sqT_exN e010 hq
      have xat : atI xs ((i : Nat) : Int) = some (.ref q) := atI_nat (j := i) hx
      -- is_range
      refine ⟨fun σ' H' => ∃ isr : Bool, σ' = [some (.ref a), some (anV an), some (.ref b), some (.ref p6), some (anV t2), some (.int ((i : Nat) : Int)), some (.ref p3), some (.int ((costN (flg ns ms) : Nat) : Int)), some (.ref p7), some (.ref D8), some (.bl isr), v11] ∧ H10 = H' ∧ (isr = true → mv.1 = true ∧ t2 ≠ some (rowAt ns (mv.2 : Nat))), ?_, ?_⟩
      · refine ⟨_, rfl, _, rfl, b, xs, _, _, rfl, rfl, hb10, xat, q, _, _, _, rfl, rfl, hq10, at0, rfl, _, rfl, ?_⟩
        refine ifB (fun c => ?_) (fun c => ?_)
        · have c1 : mv.1 = true := by
            cases z : mv.1 with
            | true => rfl
            | false =>
              exfalso
              have c : decide (V.str (wordC mv.1) = V.str ("range" : Str)) = true := c
              rw [z] at c
              exact absurd c (by decide)
          have rat : atI (ns.map V.int) ((mv.2 : Nat) : Int) = some (.int (rowAt ns (mv.2 : Nat))) := atI_nat (j := mv.2) (by rw [List.getElem?_map, get_row hmv]; rfl)
          refine ⟨_, rfl, _, rfl, _, rfl, _, rfl, b, xs, _, _, rfl, rfl, hb10, xat, q, _, _, _, rfl, rfl, hq10, at1, a, _, _, _, rfl, rfl, ha10, rat, (by cases t2 <;> rfl), ?_⟩
          refine ⟨_, rfl, rfl, fun z => ⟨c1, fun y => ?_⟩⟩
          rw [y] at z
          simp [anV] at z
        · exact ⟨_, rfl, rfl, fun z => absurd z (by decide)⟩
      rintro σ' H' ⟨isr, rfl, rfl, hisr⟩
      have pl : ∀ p, posA ns an' = some p → p < ns.length := fun p => posA_lt
      obtain ⟨nw1, nw2⟩ := new_two pl hmv fr
      have nw3 : isr = true → (newB ns ms rs).length ≤ 1 := fun z => by
        obtain ⟨c1, c2⟩ := hisr z
        have some' : (posA ns an').isSome = true := by
          cases y : (posA ns an').isSome with
          | true => rfl
          | false =>
            exfalso
            rw [if_neg (fun u => by rw [y] at u; cases u.2)] at an2
            exact c2 an2
        obtain ⟨pp, hpp⟩ := Option.isSome_iff_exists.mp some'
        have fr2 : flg ns rs = (stepC (flg ns ms, some pp) (true, mv.2)).1 := by
          rw [fr, hpp]
          have : mv = (true, mv.2) := Prod.ext c1 rfl
          rw [← this]
        exact new_one (pl pp hpp) hmv fr2
      refine ⟨_, rfl, _, _, rfl, .inl (sqI d10), _, rfl, .inr ⟨_, rfl, ?_⟩⟩
      refine ⟨_, _, rfl, rfl, _, _, rfl, rfl, _, rfl, ?_⟩
      rw [List.length_map]
      have fin : ∀ z7 z11 : Option V, ∃ (M : Addr) (ms : List Int) (an'1 : Option Int) (v5 v6 v7 v8 v9 v10 v11 : Option V), [some (V.ref a), some (anV an), some (V.ref b), some (V.ref p6), some (anV t2), some (V.int ((i : Nat) : Int)), some (V.ref p3), z7, some (V.ref p7), some (V.ref D8), some (V.bl isr), z11] = [some (.ref a), some (anV an), some (.ref b), some (.ref M), some (anV an'1), v5, v6, v7, v8, v9, v10, v11] ∧ Ex H H10 ∧ H10 M = some (.lst (ms.map V.int)) ∧ AL ns ms an an'1 cs (i + 1) := fun z7 z11 => ⟨p6, rs, t2, _, _, _, _, _, _, _, rfl, e010, e610 _ _ hp6, al'⟩
      refine ifF (decide_eq_false ?_) ?_
      · cases isr with
        | true =>
          have := nw3 rfl
          show ¬ _
          simp
          omega
        | false =>
          simp
          omega
      refine ⟨_, rfl, _, _, rfl, .inl (sqI d10), rfl, _, rfl, ?_⟩
      rw [List.length_map]
      refine ifB (fun c => ?_) (fun c => fin _ _)
      have c : (newB ns ms rs).length = 2 := by
        have c : decide (V.int (((newB ns ms rs).length : Nat) : Int) = V.int 2) = true := c
        have := of_decide_eq_true c
        injection this with this
        omega
      obtain ⟨x, y, exy⟩ : ∃ x y, newB ns ms rs = [x, y] := by
        match newB ns ms rs, c with
        | [x, y], _ => exact ⟨x, y, rfl⟩
      have hy := nw2 x y exy
      rw [exy] at d10
      refine ⟨_, rfl, D8, _, _, _, rfl, rfl, sqI d10, at1, _, rfl, D8, _, _, _, rfl, rfl, sqI d10, at0, _, _, rfl, rfl, rfl, _, rfl, ifF ?_ (fin _ _)⟩
      rw [hy]
      exact same
    · rintro σ H2 ⟨M, ms, an', v5, v6, v7, v8, v9, v10, v11, rfl, e2, hM, al⟩
      rw [show ((xs.length : Nat) : Int).toNat = cs.length by omega] at al
      have ml := nodup_len (pw_nodup al.pw) al.sub
      have tk : cs.take cs.length = cs := List.take_length
      refine ⟨_, rfl, (by show 0 ≤ sizeLine; decide), fun p3 H3 n3 e3 h3 => ?_⟩
      have e03 := e2.trans e3
      refine ⟨_, rfl, _, rfl, a, p3, b, ns, [], xs, cs, an, rfl, Evl.ex_l e03 ha, sqI h3, Evl.ex_l e03 hb, nd, by omega, List.Pairwise.nil, Nat.zero_le _, cls_ex e03 hc, ok, fun p4 q4 H4 rs n4 e4 npq nq4 hq4 hp4 prs hrs hss => ?_⟩
      have ers : rs = ms := asc_unique prs al.pw fun r => by rw [hrs, al.mem, tk]
      have ean : (done ns [] an cs).2 = an' := by rw [al.anc, tk]
      rw [ers] at hp4
      rw [ean] at hq4
      refine ⟨_, rfl, _, rfl, (by show 2 ≤ sizeLine; decide), fun p5 H5 n5 e5 h5 => ?_⟩
      have hM5 := (e3.trans (e4.trans e5)) _ _ hM
      have dA : Dp K H5 (.ref q4) (eMd (ms, an')) := .tup (sqT (e5 _ _ hq4)) (.cons (dpL (sqI (e5 _ _ hp4))) (.cons (anV_dp an') .nil))
      have dB : Dp K H5 (.ref p5) (eMd (ms, an')) := .tup (sqT h5) (.cons (dpL (sqI hM5)) (.cons (anV_dp an') .nil))
      have e05 := e03.trans (e4.trans e5)
      refine neE goodMd (by decide) dA dB ⟨_, rfl, ifF same ?_⟩
      refine ⟨_, rfl, _, rfl, a, M, ns, ms, rfl, Evl.ex_l e05 ha, sqI hM5, nd, by omega, al.pw, by omega, al.sub, fun H6 e6 => ?_⟩
      have ch := cost_half ns ms
      have cb : (costL ns ms).natAbs < 2 ^ 20 := by
        have c2 := costL_N ns ms
        have : (2 : Nat) ^ 20 = 1048576 := by decide
        omega
      have e06 := e05.trans e6
      refine ⟨_, _, rfl, rfl, wide_mul (a := 20) (b := 20) (by decide) cb (by decide) (by decide) (by decide), _, rfl, _, _, rfl, .inl (Evl.ex_l e06 ha), _, _, rfl, rfl, _, _, rfl, rfl, _, rfl, ?_⟩
      rw [List.length_map]
      refine ifF (decide_eq_false (by omega)) ?_
      refine ⟨_, rfl, _, rfl, a, M, ns, ms, rfl, Evl.ex_l e06 ha, sqI (e6 _ _ hM5), nd, by omega, al.pw, by omega, al.sub, fun p7 H7 us n7 e7 h7 r7 => ?_⟩
      have e07 := e06.trans e7
      refine ⟨_, _, rfl, .inl (sqI h7), _, rfl, _, _, rfl, .inl (Evl.ex_l e07 hb), _, _, rfl, rfl, ?_⟩
      have bl := best_len ns ms
      rw [costL_N] at bl
      have ac := al.cost
      have := r7.1
      show Q (V.bl (decide (((us.length : Nat) : Int) ≤ ((xs.length : Nat) : Int)))) H7
      rw [decide_eq_true (show ((us.length : Nat) : Int) ≤ ((xs.length : Nat) : Int) by omega)]
      exact k H7 e07
end
end K76
set_option Elab.async false
set_option pp.maxSteps 1200
set_option linter.all false
set_option maxRecDepth 100000
set_option maxHeartbeats 4000000
namespace K76
open PySem L2 My
def sp_law (K : PySem.W.Frag) : Sp := fun vs H Q _ => ∃ (a : Addr) (ns : List Int), vs = [.ref a] ∧ SqL K H a (ns.map V.int) ∧ ns.length ≤ 63 ∧ ∀ H', Q (.bl true) H'
theorem flg_none (ns : List Int) : flg ns [] = List.replicate ns.length false := by
  unfold flg
  rw [List.map_eq_replicate_iff]
  intro r _
  simp
theorem mvs_cls {K : PySem.W.Frag} {H : Hp} {us : List V} {p : List Mv} (h : AllR (MvR K H) us p) : Cls K H us (p.map clM) := ⟨by rw [List.length_map]; exact h.1, fun i v c h1 h2 => by
  obtain ⟨m, hm, hr⟩ := h.get h1
  rw [List.getElem?_map, hm] at h2
  cases h2
  exact hr⟩
theorem mv_lt {n : Nat} {m : Mv} (h : m ∈ movesC n) : m.2 < n := by
  unfold movesC at h
  rcases List.mem_append.mp h with z | z
  · obtain ⟨i, hi, rfl⟩ := List.mem_map.mp z
    exact List.mem_range.mp hi
  · obtain ⟨i, hi, rfl⟩ := List.mem_map.mp z
    exact List.mem_range.mp hi
theorem mvs_ok {n : Nat} {p : List Mv} (h : ∀ m ∈ p, m ∈ movesC n) : ClOk n (p.map clM) := fun c hc => by
  obtain ⟨m, hm, rfl⟩ := List.mem_map.mp hc
  have := mv_lt (h m hm)
  refine ⟨?_, by show (0 : Int) ≤ ((m.2 : Nat) : Int); omega, by show ((m.2 : Nat) : Int) < (n : Nat); omega⟩
  show wordC m.1 = _ ∨ wordC m.1 = _
  cases m.1
  · exact .inl rfl
  · exact .inr rfl
section
variable {w : World} {K : PySem.W.Frag} {mg : Str → Option Value} {base : Heap}
theorem ok_law (T : Txt K mg) : FnOk PR w K mg base CX0 7 T.a_law T.d_law ["_law_script"] (sp_law K) := by
  refine T.f_law.ok sc_law (fun vs H Q E h => ?_) (fun cdv A0 outer s H vs Q E hr h => ?_)
  · obtain ⟨a, ns, rfl, _⟩ := h
    rfl
  · obtain ⟨sa, sc, rfl, hs, hsl, k⟩ := h
    refine ⟨_, (pss_cons (ps_for PassesOwn.never rfl (pi_range1 (by rfl) T.z_range (pa_cons (pe_callB (call_max2 rfl) (by rfl) T.z_max (by decide +kernel) (pa_cons pe_int (pa_cons (pe_callB (call_min2 rfl) (by rfl) T.z_min (by decide +kernel) (pa_cons pe_int (pa_cons (pe_callB call_len_seq (by rfl) T.z_len PySem.boot_len (pa_cons (pv 0) pa_nil)) pa_nil))) pa_nil))) pa_nil)) (pg_name (i := 1) sc_law.nd rfl (by first | exact Or.inl rfl | exact Or.inr rfl)) (pss_cons (ps_set (i := 2) sc_law.nd rfl (by first | exact Or.inl rfl | exact Or.inr rfl) (pe_call (ok__law_source T) (hr.mono (by decide)) (by rfl) T.g__law_source T.f__law_source.kp (b__law_source T) .nil pass0 (pa_cons (pv 0) (pa_cons (pv 1) pa_nil)))) (pss_cons (ps_set (i := 3) sc_law.nd rfl (by first | exact Or.inl rfl | exact Or.inr rfl) (pe_ix ix_list (pe_lstG (pa_cons (pe_call (ok__law_draw T) (hr.mono (by decide)) (by rfl) T.g__law_draw T.f__law_draw.kp (b__law_draw T) .nil pass0 (pa_cons (pv 2) (pa_cons pe_int pa_nil))) (pa_cons (pe_call (ok__law_draw T) (hr.mono (by decide)) (by rfl) T.g__law_draw T.f__law_draw.kp (b__law_draw T) .nil pass0 (pa_cons (pv 2) (pa_cons pe_int pa_nil))) (pa_cons pe_int pa_nil)))) (pe_ix ix_list (pe_lstG (pa_cons pe_int (pa_cons pe_int (pa_cons pe_int (pa_cons pe_int pa_nil))))) (pe_call (ok__law_draw T) (hr.mono (by decide)) (by rfl) T.g__law_draw T.f__law_draw.kp (b__law_draw T) .nil pass0 (pa_cons (pv 2) (pa_cons pe_int pa_nil))) (fun _ _ => rfl)) (fun _ _ => rfl))) (pss_cons (ps_set (i := 4) sc_law.nd rfl (by first | exact Or.inl rfl | exact Or.inr rfl) (pe_call (ok__law_some T) (hr.mono (by decide)) (by rfl) T.g__law_some T.f__law_some.kp (b__law_some T) .nil pass0 (pa_cons (pv 2) (pa_cons (pe_listRgG (by rfl) (by rfl) T.z_list (prg_1 (by rfl) T.z_range (pe_callB (call_max2 rfl) (by rfl) T.z_max (by decide +kernel) (pa_cons pe_int (pa_cons (pv 3) pa_nil))))) (pa_cons (pv 3) pa_nil))))) (pss_cons (ps_set (i := 5) sc_law.nd rfl (by first | exact Or.inl rfl | exact Or.inr rfl) (pe_ix ix_list (pe_op op_catG (pe_lstG (pa_cons pe_non (pa_cons pe_int pa_nil))) (pv 4)) (pe_call (ok__law_draw T) (hr.mono (by decide)) (by rfl) T.g__law_draw T.f__law_draw.kp (b__law_draw T) .nil pass0 (pa_cons (pv 2) (pa_cons (pe_op op_add pe_int (pv 3)) pa_nil))) (fun _ _ => rfl))) (pss_cons (ps_if (pt_not (pt_val (pe_call (ok__law_along_right T) (hr.mono (by decide)) (by rfl) T.g__law_along_right T.f__law_along_right.kp (b__law_along_right T) .nil pass0 (pa_cons (pv 4) (pa_cons (pv 5) (pa_cons (pe_call (ok__law_clicks T) (hr.mono (by decide)) (by rfl) T.g__law_clicks T.f__law_clicks.kp (b__law_clicks T) .nil pass0 (pa_cons (pv 2) (pa_cons (pv 3) (pa_cons pe_int pa_nil)))) pa_nil)))))) (pss_one (ps_ret pe_bl)) pss_nil) (pss_cons (ps_set (i := 6) sc_law.nd rfl (by first | exact Or.inl rfl | exact Or.inr rfl) (pe_callB cr_sortedG (by rfl) T.z_sorted (by decide +kernel) (pa_cons (pe_call (ok__law_some T) (hr.mono (by decide)) (by rfl) T.g__law_some T.f__law_some.kp (b__law_some T) .nil pass0 (pa_cons (pv 2) (pa_cons (pv 4) (pa_cons (pe_call (ok__law_draw T) (hr.mono (by decide)) (by rfl) T.g__law_draw T.f__law_draw.kp (b__law_draw T) .nil pass0 (pa_cons (pv 2) (pa_cons (pe_op op_add (pv 3) pe_int) pa_nil))) pa_nil)))) pa_nil))) (pss_cons (ps_set (i := 7) sc_law.nd rfl (by first | exact Or.inl rfl | exact Or.inr rfl) (pe_callB cr_sortedG (by rfl) T.z_sorted (by decide +kernel) (pa_cons (pe_call (ok__law_some T) (hr.mono (by decide)) (by rfl) T.g__law_some T.f__law_some.kp (b__law_some T) .nil pass0 (pa_cons (pv 2) (pa_cons (pv 4) (pa_cons (pe_call (ok__law_draw T) (hr.mono (by decide)) (by rfl) T.g__law_draw T.f__law_draw.kp (b__law_draw T) .nil pass0 (pa_cons (pv 2) (pa_cons (pe_op op_add (pe_callB (call_min2 rfl) (by rfl) T.z_min (by decide +kernel) (pa_cons (pv 3) (pa_cons pe_int pa_nil))) pe_int) pa_nil))) pa_nil)))) pa_nil))) (pss_cons (ps_if (PW.pt (pw_or (pt_not (pt_val (pe_call (ok__law_near_right T) (hr.mono (by decide)) (by rfl) T.g__law_near_right T.f__law_near_right.kp (b__law_near_right T) .nil pass0 (pa_cons (pv 4) (pa_cons (pv 6) pa_nil))))) (pw_or1 (pt_not (pt_val (pe_call (ok__law_both_right T) (hr.mono (by decide)) (by rfl) T.g__law_both_right T.f__law_both_right.kp (b__law_both_right T) .nil pass0 (pa_cons (pv 4) (pa_cons (pv 6) (pa_cons (pv 7) pa_nil))))))))) (pss_one (ps_ret pe_bl)) pss_nil) (pss_cons (ps_set (i := 8) sc_law.nd rfl (by first | exact Or.inl rfl | exact Or.inr rfl) (pe_slice sl_listG (pv 4) po_none (po_some (pe_ix ix_list (pe_lstG (pa_cons pe_int (pa_cons pe_int (pa_cons pe_int (pa_cons pe_int pa_nil))))) (pe_call (ok__law_draw T) (hr.mono (by decide)) (by rfl) T.g__law_draw T.f__law_draw.kp (b__law_draw T) .nil pass0 (pa_cons (pv 2) (pa_cons pe_int pa_nil))) (fun _ _ => rfl))))) (pss_cons (ps_par (by rfl) sc_law.nd rfl rfl (by decide) rfl rfl (i := 9) (j := 10) (pa_cons (pe_lc (own := [("_law_row", 14)]) (g := gName 14) (by rfl) sc_law.nd (pi_list (pv 6)) (blkOk_by (own := [("_law_row", 14)]) (N := ["_law_script", "_law_index", "_law_source_here", "_law_size", "_law_there", "_law_anchor", "_law_marks", "_law_other", "_law_few", "_law_one", "_law_two", "_law_told", "_law_way", "_law_behind", "_law_row"]) (sc := (defScope s_law)) (by decide +kernel)) (fun _ _ _ _ _ => (pg_name (i := 14) sc_law.nd rfl (by first | exact Or.inl rfl | exact Or.inr rfl))) (fun _ _ _ _ _ => (pts_one (pt_cmpR (opK (r := fun K => rIn K false) (K := K) (by rfl) op_in_seq) (pv 14) (pv 8) (by rfl)))) (fun _ _ _ _ _ => (pv 14))) (pa_cons (pe_lc (own := [("_law_row", 14)]) (g := gName 14) (by rfl) sc_law.nd (pi_list (pv 7)) (blkOk_by (own := [("_law_row", 14)]) (N := ["_law_script", "_law_index", "_law_source_here", "_law_size", "_law_there", "_law_anchor", "_law_marks", "_law_other", "_law_few", "_law_one", "_law_two", "_law_told", "_law_way", "_law_behind", "_law_row"]) (sc := (defScope s_law)) (by decide +kernel)) (fun _ _ _ _ _ => (pg_name (i := 14) sc_law.nd rfl (by first | exact Or.inl rfl | exact Or.inr rfl))) (fun _ _ _ _ _ => (pts_one (pt_cmpR (opK (r := fun K => rIn K false) (K := K) (by rfl) op_in_seq) (pv 14) (pv 8) (by rfl)))) (fun _ _ _ _ _ => (pv 14))) pa_nil)) (by rfl)) (pss_cons (ps_set (i := 11) sc_law.nd rfl (by first | exact Or.inl rfl | exact Or.inr rfl) (pe_call (ok_fewest T) (hr.mono (by decide)) (by rfl) T.g_fewest T.f_fewest.kp (b_fewest T) .nil passL (pa_cons (pv 8) (pa_cons (pe_lstG pa_nil) (pa_cons (pv 5) (pa_cons (pv 9) pa_nil)))))) (pss_cons (ps_if (pt_cmpR op_ne (pe_callB call_len_seq (by rfl) T.z_len PySem.boot_len (pa_cons (pv 11) pa_nil)) (pe_call (ok_cost T) (hr.mono (by decide)) (by rfl) T.g_cost T.f_cost.kp (b_cost T) .nil passL (pa_cons (pv 8) (pa_cons (pv 9) pa_nil))) (nomark _)) (pss_one (ps_ret pe_bl)) pss_nil) (pss_cons (ps_set (i := 12) sc_law.nd rfl (by first | exact Or.inl rfl | exact Or.inr rfl) (pe_call (ok_fewest T) (hr.mono (by decide)) (by rfl) T.g_fewest T.f_fewest.kp (b_fewest T) .nil passL (pa_cons (pv 8) (pa_cons (pe_lstG pa_nil) (pa_cons (pv 5) (pa_cons (pv 10) pa_nil)))))) (pss_cons (ps_set (i := 13) sc_law.nd rfl (by first | exact Or.inl rfl | exact Or.inr rfl) (pe_call (ok_marked T) (hr.mono (by decide)) (by rfl) T.g_marked T.f_marked.kp (b_marked T) .nil passL (pa_cons (pv 8) (pa_cons (pe_lstG pa_nil) (pa_cons (pv 5) (pa_cons (pv 12) pa_nil)))))) (pss_one (ps_if (PW.pt (pw_or (pt_cmpR (op_neD hr.units) (pe_ix ix_tup (pv 13) pe_int (fun _ _ => rfl)) (pv 10) (nomark _)) (pw_or1 (pt_cmpR op_lt (pe_op op_add (pe_callB call_len_seq (by rfl) T.z_len PySem.boot_len (pa_cons (pv 12) pa_nil)) (pe_callB call_len_seq (by rfl) T.z_len PySem.boot_len (pa_cons (pe_call (ok_fewest T) (hr.mono (by decide)) (by rfl) T.g_fewest T.f_fewest.kp (b_fewest T) .nil passL (pa_cons (pv 8) (pa_cons (pv 10) (pa_cons (pe_ix ix_tup (pv 13) pe_int (fun _ _ => rfl)) (pa_cons (pv 9) pa_nil))))) pa_nil))) (pe_callB call_len_seq (by rfl) T.z_len PySem.boot_len (pa_cons (pv 11) pa_nil)) (nomark _))))) (pss_one (ps_ret pe_bl)) pss_nil))))))))))))))))) (pss_one (ps_ret pe_bl))), ?_⟩
    have em : ∃ c : Nat, (if (if ((sc.map V.int).length : Int) < 2 then ((sc.map V.int).length : Int) else 2) > 1 then (if ((sc.map V.int).length : Int) < 2 then ((sc.map V.int).length : Int) else 2) else 1) = (c : Int) ∧ c ≤ 2 := by
      rw [List.length_map]
      refine ⟨max 1 (min 2 sc.length), ?_, by omega⟩
      split <;> split <;> omega
    obtain ⟨c, ec, c2⟩ := em
    refine ⟨_, rfl, _, _, rfl, .inl hs, _, _, rfl, _, _, rfl, ?_⟩
    rw [ec]
    refine ⟨_, rfl, (by omega), (by omega), for_range (lo := 0) (n := ((c : Int)).toNat) (fun i σ H' => ∃ v1 v2 v3 v4 v5 v6 v7 v8 v9 v10 v11 v12 v13 v14, σ = [some (.ref sa), v1, v2, v3, v4, v5, v6, v7, v8, v9, v10, v11, v12, v13, v14] ∧ SqL K H' sa (sc.map V.int)) ⟨_, _, _, _, _, _, _, _, _, _, _, _, _, _, rfl, hs⟩ ?_ ?_⟩
    · rintro i σ H0 hi ⟨v1, v2, v3, v4, v5, v6, v7, v8, v9, v10, v11, v12, v13, v14, rfl, hs0⟩
      refine ⟨_, rfl, _, rfl, sa, sc, _, rfl, hs0, by omega, by omega, fun j H1 nj e1 j1 => ?_⟩
      refine ⟨_, rfl, j, _, _, rfl, j1, by decide, by decide, by decide, fun d1 H2 d1a d1b e2 j2 => ?_⟩
      refine ⟨_, rfl, j, _, _, rfl, j2, by decide, by decide, by decide, fun d2 H3 d2a d2b e3 j3 => ?_⟩
      refine ⟨(by show 3 ≤ sizeLine; decide), fun p4 H4 n4 e4 h4 => ?_⟩
      refine ⟨(by show 4 ≤ sizeLine; decide), fun p5 H5 n5 e5 h5 => ?_⟩
      have j5 := j3.ex (e4.trans e5)
      refine ⟨_, rfl, j, _, _, rfl, j5, by decide, by decide, by decide, fun d6 H6 d6a d6b e6 j6 => ?_⟩
      have n4j := j3.ne n4
      have n5j := (j3.ex e4).ne n5
      obtain ⟨sel, hsel, at1'⟩ : ∃ sel : Int, (0 ≤ sel ∧ sel ≤ 2) ∧ atI [V.int 0, .int 0, .int 1, .int 2] d6 = some (.int sel) := by
        rcases (show d6 = 0 ∨ d6 = 1 ∨ d6 = 2 ∨ d6 = 3 by omega) with z | z | z | z
        · exact ⟨0, by omega, by rw [z]; rfl⟩
        · exact ⟨0, by omega, by rw [z]; rfl⟩
        · exact ⟨1, by omega, by rw [z]; rfl⟩
        · exact ⟨2, by omega, by rw [z]; rfl⟩
      obtain ⟨size, hsz, at2'⟩ : ∃ size : Int, (0 ≤ size ∧ size ≤ 40) ∧ atI [V.int d1, .int d2, .int 40] sel = some (.int size) := by
        rcases (show sel = 0 ∨ sel = 1 ∨ sel = 2 by omega) with z | z | z
        · exact ⟨d1, by omega, by rw [z]; rfl⟩
        · exact ⟨d2, by omega, by rw [z]; rfl⟩
        · exact ⟨40, by omega, by rw [z]; rfl⟩
      refine ⟨_, _, _, _, rfl, rfl, sqI (e6 _ _ n5j h5), at1', _, _, _, _, rfl, rfl, sqI (e6 _ _ n4j (e5 _ _ h4)), at2', ?_⟩
      obtain ⟨sz, rfl⟩ : ∃ sz : Nat, size = (sz : Int) := ⟨size.toNat, by omega⟩
      refine st_eq (σ' := [some (.ref sa), some (.int (0 + (i : Int))), some (.ref j), some (.int (sz : Nat)), v4, v5, v6, v7, v8, v9, v10, v11, v12, v13, v14]) (P := fun σ => tSeq _ _ _ σ H6) rfl ?_
      have b6 : Jug H6 j 10 := j6.mono (by omega)
      -- there
      obtain ⟨up, hup, upb⟩ : ∃ up : Nat, (if ((sz : Nat) : Int) > 9 then ((sz : Nat) : Int) else 9) = (up : Nat) ∧ sz ≤ up ∧ up ≤ 40 := ⟨max 9 sz, by split <;> omega, by omega, by omega⟩
      refine ⟨_, rfl, _, rfl, _, _, rfl, _, rfl, (by rw [hup]; exact RgOk.of_le (by omega) (by omega) (by omega) (by omega)), fun p7 H7 n7 e7 h7 => ?_⟩
      have h7 : H7 p7 = some (.lst ((upN up).map V.int)) := h7.trans (by rw [hup, rgV_upN])
      refine ⟨_, rfl, j, p7, _, _, upN up, rfl, b6.ex e7, by decide, sqI h7, by rw [upN_len]; omega, by omega, by omega, fun P H8 ts ls nP x8 nPj j8 hP pm tl => ?_⟩
      have tl : ts.length = sz := by rw [upN_len] at tl; omega
      have tnd : ts.Nodup := (List.nodup_append.mp (pm.nodup_iff.mpr (upN_nodup up))).1
      have tsub : ∀ r ∈ ts, r ∈ upN up := fun r hr => pm.mem_iff.mp (List.mem_append_left _ hr)
      refine st_eq (σ' := [some (.ref sa), some (.int (0 + (i : Int))), some (.ref j), some (.int (sz : Nat)), some (.ref P), v5, v6, v7, v8, v9, v10, v11, v12, v13, v14]) (P := fun σ => tSeq _ _ _ σ H8) rfl ?_
      -- anchor
      refine ⟨(by show 2 ≤ sizeLine; decide), fun p9 H9 n9 e9 h9 => ?_⟩
      refine ⟨_, rfl, _, _, _, _, rfl, rfl, h9, e9 _ _ hP, ?_, fun p10 H10 n10 e10 h10 => ?_⟩
      · rw [List.length_map]
        exact Nat.le_trans (show 2 + ts.length ≤ 100 by omega) (by decide)
      have j10 := j8.ex (e9.trans e10)
      have n10j := (j8.ex e9).ne n10
      refine ⟨_, rfl, _, rfl, _, _, rfl, rfl, j, _, _, rfl, j10, by decide, by omega, ?_, fun d11 H11 d11a d11b e11 j11 => ?_⟩
      · have : ((2 : Int) ^ 200) > 1000 := by decide
        omega
      obtain ⟨an, hat⟩ : ∃ an : Option Int, atI ([V.non, V.int 77] ++ ts.map V.int) d11 = some (anV an) := by
        obtain ⟨dn, rfl⟩ : ∃ dn : Nat, d11 = (dn : Nat) := ⟨d11.toNat, by omega⟩
        match dn, d11b with
        | 0, _ => exact ⟨none, atI_nat (j := 0) rfl⟩
        | 1, _ => exact ⟨some 77, atI_nat (j := 1) rfl⟩
        | dn + 2, h =>
          have hd : dn < ts.length := by omega
          exact ⟨some (ts[dn]), atI_nat (j := dn + 2) (by show (ts.map V.int)[dn]? = _; rw [List.getElem?_map, List.getElem?_eq_getElem hd]; rfl)⟩
      refine ⟨_, _, _, _, rfl, rfl, sqI (e11 _ _ n10j h10), hat, ?_⟩
      have nPj' := nPj
      have hP11 := e11 _ _ nPj ((e9.trans e10) _ _ hP)
      refine st_eq (σ' := [some (.ref sa), some (.int (0 + (i : Int))), some (.ref j), some (.int (sz : Nat)), some (.ref P), some (anV an), v6, v7, v8, v9, v10, v11, v12, v13, v14]) (P := fun σ => tSeq _ _ _ σ H11) rfl ?_
      have b11 : Jug H11 j 1000 := j11.mono (by omega)
      refine ⟨_, rfl, _, rfl, _, rfl, _, rfl, j, _, _, _, rfl, b11, by decide, by omega, by omega, by decide, by decide, fun pC H12 xs cs nC x12 nCj j12 hC cls ok cl => ?_⟩
      have hP12 := x12 _ _ nPj hP11
      have szT : ((sz : Nat) : Int).toNat = ts.length := by omega
      rw [szT] at ok
      refine ⟨P, pC, ts, xs, cs, an, rfl, sqI hP12, sqI hC, cls.cls, ok, cl, tnd, by omega, fun H13 e13 => ?_⟩
      refine ⟨_, rfl, ifF rfl ?_⟩
      have hP13 := e13 _ _ hP12
      have j13 : Jug H13 j 2000 := (j12.ex e13).mono (by omega)
      -- marks
      refine ⟨_, rfl, _, rfl, _, rfl, _, rfl, _, _, rfl, rfl, j, _, _, rfl, j13, by decide, by omega, ?_, fun d14 H14 d14a d14b e14 j14 => ?_⟩
      · have : ((2 : Int) ^ 200) > 1000 := by decide
        omega
      have hP14 := e14 _ _ nPj hP13
      refine ⟨j, P, d14, _, ts, rfl, j14, by decide, sqI hP14, by omega, by omega, by omega, fun pM0 H15 t15 l15 n15 x15 n15j j15 h15 pm15 tl15 => ?_⟩
      have hP15 := x15 _ _ nPj hP14
      have nd15 : t15.Nodup := (List.nodup_append.mp (pm15.nodup_iff.mpr tnd)).1
      refine ⟨pM0, t15, rfl, sqI h15, fun ms pr pw M H16 n16 e16 h16 => ?_⟩
      have pms := asc_of pr pw nd15
      have sms : ∀ r ∈ ms, r ∈ ts := fun r hr => pm15.mem_iff.mp (List.mem_append_left _ (pr.mem_iff.mp hr))
      have j16 : Jug H16 j 3000 := (j15.ex e16).mono (by omega)
      have nMj := j15.ne n16
      have hP16 := e16 _ _ hP15
      refine st_eq (σ' := [some (.ref sa), some (.int (0 + (i : Int))), some (.ref j), some (.int (sz : Nat)), some (.ref P), some (anV an), some (.ref M), v7, v8, v9, v10, v11, v12, v13, v14]) (P := fun σ => tSeq _ _ _ σ H16) rfl ?_
      -- other
      refine ⟨_, rfl, _, rfl, _, rfl, _, rfl, _, _, rfl, _, _, rfl, rfl, j, _, _, rfl, j16, by decide, by split <;> omega, ?_, fun d17 H17 d17a d17b e17 j17 => ?_⟩
      · have : ((2 : Int) ^ 200) > 1000 := by decide
        split <;> omega
      have hP17 := e17 _ _ nPj hP16
      have hM17 := e17 _ _ nMj h16
      have d17c : d17 ≤ 100 := by
        have : d17 < (if (4 : Int) < ((sz : Nat) : Int) then (4 : Int) else ((sz : Nat) : Int)) + 1 := d17b
        split at this <;> omega
      refine ⟨j, P, d17, _, ts, rfl, j17, by decide, sqI hP17, by omega, by omega, by omega, fun pO0 H18 t18 l18 n18 x18 n18j j18 h18 pm18 tl18 => ?_⟩
      have hP18 := x18 _ _ nPj hP17
      have hM18 := x18 _ _ nMj hM17
      have nd18 : t18.Nodup := (List.nodup_append.mp (pm18.nodup_iff.mpr tnd)).1
      refine ⟨pO0, t18, rfl, sqI h18, fun os pr2 pw2 O H19 n19 e19 h19 => ?_⟩
      have pos := asc_of pr2 pw2 nd18
      have sos : ∀ r ∈ os, r ∈ ts := fun r hr => pm18.mem_iff.mp (List.mem_append_left _ (pr2.mem_iff.mp hr))
      have j19 : Jug H19 j 4000 := (j18.ex e19).mono (by omega)
      have nOj := j18.ne n19
      have hP19 := e19 _ _ hP18
      have hM19 := e19 _ _ hM18
      have mll := nodup_len (pw_nodup pms) sms
      have oll := nodup_len (pw_nodup pos) sos
      refine st_eq (σ' := [some (.ref sa), some (.int (0 + (i : Int))), some (.ref j), some (.int (sz : Nat)), some (.ref P), some (anV an), some (.ref M), some (.ref O), v8, v9, v10, v11, v12, v13, v14]) (P := fun σ => tSeq _ _ _ σ H19) rfl ?_
      refine ⟨_, rfl, _, rfl, P, M, ts, ms, rfl, sqI hP19, sqI hM19, tnd, by omega, pms, by omega, sms, fun H20 e20 => ?_⟩
      refine ⟨_, rfl, ifF rfl ?_⟩
      refine ⟨_, rfl, _, rfl, _, rfl, P, M, O, ts, ms, os, rfl, sqI (e20 _ _ hP19), sqI (e20 _ _ hM19), sqI (e20 _ _ h19), tnd, by omega, pms, pos, sms, sos, fun H21 e21 => ?_⟩
      refine ⟨_, rfl, ifF rfl ?_⟩
      have e1921 := e20.trans e21
      have hP21 := e1921 _ _ hP19
      have hM21 := e1921 _ _ hM19
      have hO21 := e1921 _ _ h19
      have j21 := j19.ex e1921
      -- few
      refine ⟨_, rfl, (by show 4 ≤ sizeLine; decide), fun p22 H22 n22 e22 h22 => ?_⟩
      have n22j := j21.ne n22
      refine ⟨_, rfl, j, _, _, rfl, j21.ex e22, by decide, by decide, by decide, fun d23 H23 d23a d23b e23 j23 => ?_⟩
      obtain ⟨fn, hfn, hfat⟩ : ∃ fn : Nat, fn ≤ 5 ∧ atI [V.int 3, .int 4, .int 4, .int 5] d23 = some (.int (fn : Nat)) := by
        rcases (show d23 = 0 ∨ d23 = 1 ∨ d23 = 2 ∨ d23 = 3 by omega) with z | z | z | z
        · exact ⟨3, by omega, by rw [z]; rfl⟩
        · exact ⟨4, by omega, by rw [z]; rfl⟩
        · exact ⟨4, by omega, by rw [z]; rfl⟩
        · exact ⟨5, by omega, by rw [z]; rfl⟩
      have hP23 := e23 _ _ nPj (e22 _ _ hP21)
      have hM23 := e23 _ _ nMj (e22 _ _ hM21)
      have hO23 := e23 _ _ nOj (e22 _ _ hO21)
      refine ⟨_, _, _, _, rfl, rfl, sqI (e23 _ _ n22j h22), hfat, _, rfl, P, _, rfl, sqI hP23, fun F H24 nF e24 hF => ?_⟩
      rw [cut_to, ← List.map_take] at hF
      obtain ⟨fs, hfs⟩ : ∃ fs, fs = ts.take fn := ⟨_, rfl⟩
      rw [← hfs] at hF
      have fnd : fs.Nodup := by rw [hfs]; exact tnd.sublist (List.take_sublist _ _)
      have fl5 : fs.length ≤ 5 := by rw [hfs, List.length_take]; omega
      have hM24 := e24 _ _ hM23
      have hO24 := e24 _ _ hO23
      -- one, two
      refine ⟨_, rfl, M, rfl, ⟨_, sqI hM24⟩, fun D1 hD1 => lc_filtI (K := K) (a := M) (ns := ms) (p := fun r => decide (r ∈ fs)) (sqI hM24) hD1 (by omega) (fun x => rfl) ?_ ?_ ?_⟩
      · intro r H' hr' e' Z kZ
        refine ⟨_, rfl, _, rfl, _, _, rfl, .inl (sqI (e' _ _ hF)), rfl, flatI _, _, rfl, ?_⟩
        rw [inV_int]
        exact kZ H' (Evl.Ex.refl _)
      · intro v H' N kN
        exact ⟨_, rfl, kN⟩
      intro H25 e25 d25
      refine ⟨_, rfl, O, rfl, ⟨_, sqI (e25 _ _ hO24)⟩, fun D2 hD2 => lc_filtI (K := K) (a := O) (ns := os) (p := fun r => decide (r ∈ fs)) (sqI (e25 _ _ hO24)) hD2 (by omega) (fun x => rfl) ?_ ?_ ?_⟩
      · intro r H' hr' e' Z kZ
        refine ⟨_, rfl, _, rfl, _, _, rfl, .inl (sqI ((e25.trans e') _ _ hF)), rfl, flatI _, _, rfl, ?_⟩
        rw [inV_int]
        exact kZ H' (Evl.Ex.refl _)
      · intro v H' N kN
        exact ⟨_, rfl, kN⟩
      intro H26 e26 d26
      refine ⟨_, _, rfl, ?_⟩
      obtain ⟨o1, ho1⟩ : ∃ o1, o1 = ms.filter fun r => decide (r ∈ fs) := ⟨_, rfl⟩
      obtain ⟨o2, ho2⟩ : ∃ o2, o2 = os.filter fun r => decide (r ∈ fs) := ⟨_, rfl⟩
      rw [← ho1] at d25
      rw [← ho2] at d26
      have p1 : o1.Pairwise (· < ·) := by rw [ho1]; exact pms.filter _
      have p2 : o2.Pairwise (· < ·) := by rw [ho2]; exact pos.filter _
      have s1 : ∀ r ∈ o1, r ∈ fs := fun r hr => by rw [ho1] at hr; simpa using (List.mem_filter.mp hr).2
      have s2 : ∀ r ∈ o2, r ∈ fs := fun r hr => by rw [ho2] at hr; simpa using (List.mem_filter.mp hr).2
      have l1 := nodup_len (pw_nodup p1) s1
      have l2 := nodup_len (pw_nodup p2) s2
      have hF26 := (e25.trans e26) _ _ hF
      have d1_26 := e26 _ _ d25
      -- told
      refine ⟨_, rfl, (by show 0 ≤ sizeLine; decide), fun p27 H27 n27 e27 h27 => ?_⟩
      refine ⟨_, rfl, _, rfl, F, p27, D1, fs, [], o1, an, rfl, sqI (e27 _ _ hF26), sqI h27, sqI (e27 _ _ d1_26), fnd, fl5, List.Pairwise.nil, p1, Nat.zero_le _, by omega, (fun r h => nomatch h), s1, fun q28 H28 us p e28 hq28 hus hl hp hmin => ?_⟩
      have pa : ∀ p, posA fs an = some p → p < fs.length := fun p => posA_lt
      rw [flg_none] at hl hmin
      have fl1 : (flg fs o1).length = fs.length := by simp [flg]
      have pc := few_cost fl5 fl1 pa hl hp hmin
      have e2628 := e27.trans e28
      refine ⟨_, rfl, _, _, rfl, .inl (sqI hq28), _, rfl, _, rfl, F, D1, fs, o1, rfl, sqI (e2628 _ _ hF26), sqI (e2628 _ _ d1_26), fnd, by omega, p1, by omega, s1, fun H29 e29 => ?_⟩
      refine ⟨rfl, _, rfl, ifF ?_ ?_⟩
      · rw [costL_N, ← pc, hus.1]
        exact same
      have e2629 := e2628.trans e29
      -- way
      refine ⟨_, rfl, (by show 0 ≤ sizeLine; decide), fun p30 H30 n30 e30 h30 => ?_⟩
      have e2630 := e2629.trans e30
      refine ⟨_, rfl, _, rfl, F, p30, D2, fs, [], o2, an, rfl, sqI (e2630 _ _ hF26), sqI h30, sqI (e2630 _ _ d26), fnd, fl5, List.Pairwise.nil, p2, Nat.zero_le _, by omega, (fun r h => nomatch h), s2, fun q31 H31 us2 y e31 hq31 hus2 hl2 hp2 hmin2 => ?_⟩
      have e2631 := e2630.trans e31
      -- behind
      refine ⟨_, rfl, (by show 0 ≤ sizeLine; decide), fun p32 H32 n32 e32 h32 => ?_⟩
      have e2632 := e2631.trans e32
      refine ⟨_, rfl, _, rfl, F, p32, q31, fs, [], us2, y.map clM, an, rfl, sqI (e2632 _ _ hF26), sqI h32, sqI (e32 _ _ hq31), fnd, by omega, List.Pairwise.nil, Nat.zero_le _, mvs_cls (hus2.mono fun v m r => r.ex e32), mvs_ok hp2, fun a33 q33 H33 rs n33 e33 npq nq33 hq33 ha33 prs hrs hss => ?_⟩
      have e2633 := e2632.trans e33
      obtain ⟨g1, g2, g3⟩ := done_gen fnd y (fun r => decide (r ∈ ([] : List Int))) an fun m hm => mv_lt (hp2 m hm)
      obtain ⟨dn, hdn⟩ : ∃ dn, dn = done fs [] an (y.map clM) := ⟨_, rfl⟩
      have g1 : fls fs dn.1 = (y.foldl stepC (flg fs [], posA fs an)).1 := by rw [hdn]; exact g1
      have g2 : posA fs dn.2 = (y.foldl stepC (flg fs [], posA fs an)).2 := by rw [hdn]; exact g2
      rw [← hdn] at hq33 hrs
      have ers : rs = o2 := by
        refine asc_unique prs p2 fun r => ?_
        have hl2' : (y.foldl stepC (flg fs [], posA fs an)).1 = flg fs o2 := hl2
        rw [hl2'] at g1
        by_cases hr : r ∈ fs
        · obtain ⟨ix, hix⟩ := List.mem_iff_getElem?.mp hr
          have a1 := fls_at (f := dn.1) hix
          have a2 := fls_at (f := fun r => decide (r ∈ o2)) hix
          rw [hrs, ← a1, g1]
          show (fls fs fun r => decide (r ∈ o2)).getD ix false = true ↔ _
          rw [a2, decide_eq_true_iff]
        · exact ⟨fun z => absurd ((List.mem_append.mp (hss r z)).elim (fun h => nomatch h) id) hr, fun z => absurd (s2 r z) hr⟩
      rw [ers] at ha33
      have d2_33 := e2633 _ _ d26
      refine ⟨_, rfl, _, _, _, _, rfl, rfl, sqT hq33, at0, _, rfl, neI_ (xs := o2) (ys := o2) (sqI ha33) (sqI d2_33) ⟨_, rfl, ifF same ?_⟩⟩
      refine ⟨_, rfl, _, _, rfl, .inl (sqI ((e32.trans e33) _ _ hq31)), _, rfl, _, rfl, _, rfl, _, _, _, _, rfl, rfl, sqT hq33, at1, _, rfl, F, D2, D1, fs, o2, o1, dn.2, rfl, sqI (e2633 _ _ hF26), sqI d2_33, sqI (e2633 _ _ d1_26), fnd, fl5, p2, p1, by omega, by omega, s2, s1, fun q34 H34 us3 z e34 hq34 hus3 hl3 hp3 hmin3 => ?_⟩
      refine ⟨_, _, rfl, .inl (sqI hq34), _, _, rfl, rfl, _, rfl, _, _, rfl, .inl (sqI ((e29.trans (e30.trans (e31.trans (e32.trans (e33.trans e34))))) _ _ hq28)), _, _, rfl, rfl, _, rfl, ?_⟩
      have both : leads (List.replicate fs.length false, posA fs an) (flg fs o1) (y ++ z) := by
        unfold leads at hl2 hl3 ⊢
        rw [List.foldl_append, ← flg_none]
        have est : y.foldl stepC (flg fs [], posA fs an) = (flg fs o2, posA fs dn.2) := Prod.ext hl2 g2.symm
        rw [est]
        exact hl3
      have tot := hmin (y ++ z) (fun m hm => (List.mem_append.mp hm).elim (hp2 m) (hp3 m)) both
      rw [List.length_append] at tot
      have u1 := hus.1
      have u2 := hus2.1
      have u3 := hus3.1
      refine ifF (decide_eq_false (by omega)) ?_
      have xj : Exj j H1 H34 := e2.trans (e3.trans ((Exj.of (e4.trans e5)).trans (e6.trans ((Exj.of e7).trans (x8.trans ((Exj.of (e9.trans e10)).trans (e11.trans (x12.trans ((Exj.of e13).trans (e14.trans (x15.trans ((Exj.of e16).trans (e17.trans (x18.trans ((Exj.of (e19.trans (e1921.trans e22))).trans (e23.trans (Exj.of (e24.trans (e25.trans (e26.trans (e2633.trans e34)))))))))))))))))))))
      have all : Ex H0 H34 := fun b o hb => xj b o (fun z => by rw [z, nj] at hb; cases hb) (e1 b o hb)
      exact ⟨_, _, _, _, _, _, _, _, _, _, _, _, _, _, rfl, Evl.ex_l all hs0⟩
    · rintro σ H' ⟨v1, v2, v3, v4, v5, v6, v7, v8, v9, v10, v11, v12, v13, v14, rfl, hs'⟩
      exact k H'
end
end K76
namespace K76
open PySem L2 My
theorem all_mk {K : PySem.W.Frag} {h : Heap} {mg : Str → Option Value} (X : K.In h) (G : h.Ns mainGlobals mg)
    {f0 : Addr} {od0 an0 : Option Addr} {sl0 : Array (Option Value)} {oc0 kV0 dc0 pm0 cd0 ct0 : Value}
    (a0 : PySem.W.nsIn K mainGlobals "check_there" = some (some (.ref f0))) (l0 : K.lookup f0 = some ⟨oc0, od0, .func (PySem.W.fnOf "check_there" "check_there" (defArgs s_check_there) (defBody s_check_there) (defScope s_check_there) .none kV0 dc0 pm0 an0 cd0 ct0), sl0⟩) (c0 : PySem.W.codeIn K cd0 "check_there" = true) (k0 : PySem.W.keepIn K (.ref f0) = true)
    {f1 : Addr} {od1 an1 : Option Addr} {sl1 : Array (Option Value)} {oc1 kV1 dc1 pm1 cd1 ct1 : Value}
    (a1 : PySem.W.nsIn K mainGlobals "are_marks" = some (some (.ref f1))) (l1 : K.lookup f1 = some ⟨oc1, od1, .func (PySem.W.fnOf "are_marks" "are_marks" (defArgs s_are_marks) (defBody s_are_marks) (defScope s_are_marks) .none kV1 dc1 pm1 an1 cd1 ct1), sl1⟩) (c1 : PySem.W.codeIn K cd1 "are_marks" = true) (k1 : PySem.W.keepIn K (.ref f1) = true)
    {f2 : Addr} {od2 an2 : Option Addr} {sl2 : Array (Option Value)} {oc2 kV2 dc2 pm2 cd2 ct2 : Value}
    (a2 : PySem.W.nsIn K mainGlobals "check_marks" = some (some (.ref f2))) (l2 : K.lookup f2 = some ⟨oc2, od2, .func (PySem.W.fnOf "check_marks" "check_marks" (defArgs s_check_marks) (defBody s_check_marks) (defScope s_check_marks) .none kV2 dc2 pm2 an2 cd2 ct2), sl2⟩) (c2 : PySem.W.codeIn K cd2 "check_marks" = true) (k2 : PySem.W.keepIn K (.ref f2) = true)
    {f3 : Addr} {od3 an3 : Option Addr} {sl3 : Array (Option Value)} {oc3 kV3 dc3 pm3 cd3 ct3 : Value}
    (a3 : PySem.W.nsIn K mainGlobals "check_marks_there" = some (some (.ref f3))) (l3 : K.lookup f3 = some ⟨oc3, od3, .func (PySem.W.fnOf "check_marks_there" "check_marks_there" (defArgs s_check_marks_there) (defBody s_check_marks_there) (defScope s_check_marks_there) .none kV3 dc3 pm3 an3 cd3 ct3), sl3⟩) (c3 : PySem.W.codeIn K cd3 "check_marks_there" = true) (k3 : PySem.W.keepIn K (.ref f3) = true)
    {f4 : Addr} {od4 an4 : Option Addr} {sl4 : Array (Option Value)} {oc4 kV4 dc4 pm4 cd4 ct4 : Value}
    (a4 : PySem.W.nsIn K mainGlobals "check_clicks" = some (some (.ref f4))) (l4 : K.lookup f4 = some ⟨oc4, od4, .func (PySem.W.fnOf "check_clicks" "check_clicks" (defArgs s_check_clicks) (defBody s_check_clicks) (defScope s_check_clicks) .none kV4 dc4 pm4 an4 cd4 ct4), sl4⟩) (c4 : PySem.W.codeIn K cd4 "check_clicks" = true) (k4 : PySem.W.keepIn K (.ref f4) = true)
    {f5 : Addr} {od5 an5 : Option Addr} {sl5 : Array (Option Value)} {oc5 kV5 dc5 pm5 cd5 ct5 : Value}
    (a5 : PySem.W.nsIn K mainGlobals "places_of" = some (some (.ref f5))) (l5 : K.lookup f5 = some ⟨oc5, od5, .func (PySem.W.fnOf "places_of" "places_of" (defArgs s_places_of) (defBody s_places_of) (defScope s_places_of) .none kV5 dc5 pm5 an5 cd5 ct5), sl5⟩) (c5 : PySem.W.codeIn K cd5 "places_of" = true) (k5 : PySem.W.keepIn K (.ref f5) = true)
    {f6 : Addr} {od6 an6 : Option Addr} {sl6 : Array (Option Value)} {oc6 kV6 dc6 pm6 cd6 ct6 : Value}
    (a6 : PySem.W.nsIn K mainGlobals "marked_in" = some (some (.ref f6))) (l6 : K.lookup f6 = some ⟨oc6, od6, .func (PySem.W.fnOf "marked_in" "marked_in" (defArgs s_marked_in) (defBody s_marked_in) (defScope s_marked_in) .none kV6 dc6 pm6 an6 cd6 ct6), sl6⟩) (c6 : PySem.W.codeIn K cd6 "marked_in" = true) (k6 : PySem.W.keepIn K (.ref f6) = true)
    {f7 : Addr} {od7 an7 : Option Addr} {sl7 : Array (Option Value)} {oc7 kV7 dc7 pm7 cd7 ct7 : Value}
    (a7 : PySem.W.nsIn K mainGlobals "borders_in" = some (some (.ref f7))) (l7 : K.lookup f7 = some ⟨oc7, od7, .func (PySem.W.fnOf "borders_in" "borders_in" (defArgs s_borders_in) (defBody s_borders_in) (defScope s_borders_in) .none kV7 dc7 pm7 an7 cd7 ct7), sl7⟩) (c7 : PySem.W.codeIn K cd7 "borders_in" = true) (k7 : PySem.W.keepIn K (.ref f7) = true)
    {f8 : Addr} {od8 an8 : Option Addr} {sl8 : Array (Option Value)} {oc8 kV8 dc8 pm8 cd8 ct8 : Value}
    (a8 : PySem.W.nsIn K mainGlobals "blocks_of" = some (some (.ref f8))) (l8 : K.lookup f8 = some ⟨oc8, od8, .func (PySem.W.fnOf "blocks_of" "blocks_of" (defArgs s_blocks_of) (defBody s_blocks_of) (defScope s_blocks_of) .none kV8 dc8 pm8 an8 cd8 ct8), sl8⟩) (c8 : PySem.W.codeIn K cd8 "blocks_of" = true) (k8 : PySem.W.keepIn K (.ref f8) = true)
    {f9 : Addr} {od9 an9 : Option Addr} {sl9 : Array (Option Value)} {oc9 kV9 dc9 pm9 cd9 ct9 : Value}
    (a9 : PySem.W.nsIn K mainGlobals "cost_in" = some (some (.ref f9))) (l9 : K.lookup f9 = some ⟨oc9, od9, .func (PySem.W.fnOf "cost_in" "cost_in" (defArgs s_cost_in) (defBody s_cost_in) (defScope s_cost_in) .none kV9 dc9 pm9 an9 cd9 ct9), sl9⟩) (c9 : PySem.W.codeIn K cd9 "cost_in" = true) (k9 : PySem.W.keepIn K (.ref f9) = true)
    {f10 : Addr} {od10 an10 : Option Addr} {sl10 : Array (Option Value)} {oc10 kV10 dc10 pm10 cd10 ct10 : Value}
    (a10 : PySem.W.nsIn K mainGlobals "check_state" = some (some (.ref f10))) (l10 : K.lookup f10 = some ⟨oc10, od10, .func (PySem.W.fnOf "check_state" "check_state" (defArgs s_check_state) (defBody s_check_state) (defScope s_check_state) .none kV10 dc10 pm10 an10 cd10 ct10), sl10⟩) (c10 : PySem.W.codeIn K cd10 "check_state" = true) (k10 : PySem.W.keepIn K (.ref f10) = true)
    {f11 : Addr} {od11 an11 : Option Addr} {sl11 : Array (Option Value)} {oc11 kV11 dc11 pm11 cd11 ct11 : Value}
    (a11 : PySem.W.nsIn K mainGlobals "marked" = some (some (.ref f11))) (l11 : K.lookup f11 = some ⟨oc11, od11, .func (PySem.W.fnOf "marked" "marked" (defArgs s_marked) (defBody s_marked) (defScope s_marked) .none kV11 dc11 pm11 an11 cd11 ct11), sl11⟩) (c11 : PySem.W.codeIn K cd11 "marked" = true) (k11 : PySem.W.keepIn K (.ref f11) = true)
    {f12 : Addr} {od12 an12 : Option Addr} {sl12 : Array (Option Value)} {oc12 kV12 dc12 pm12 cd12 ct12 : Value}
    (a12 : PySem.W.nsIn K mainGlobals "borders" = some (some (.ref f12))) (l12 : K.lookup f12 = some ⟨oc12, od12, .func (PySem.W.fnOf "borders" "borders" (defArgs s_borders) (defBody s_borders) (defScope s_borders) .none kV12 dc12 pm12 an12 cd12 ct12), sl12⟩) (c12 : PySem.W.codeIn K cd12 "borders" = true) (k12 : PySem.W.keepIn K (.ref f12) = true)
    {f13 : Addr} {od13 an13 : Option Addr} {sl13 : Array (Option Value)} {oc13 kV13 dc13 pm13 cd13 ct13 : Value}
    (a13 : PySem.W.nsIn K mainGlobals "cost" = some (some (.ref f13))) (l13 : K.lookup f13 = some ⟨oc13, od13, .func (PySem.W.fnOf "cost" "cost" (defArgs s_cost) (defBody s_cost) (defScope s_cost) .none kV13 dc13 pm13 an13 cd13 ct13), sl13⟩) (c13 : PySem.W.codeIn K cd13 "cost" = true) (k13 : PySem.W.keepIn K (.ref f13) = true)
    {f14 : Addr} {od14 an14 : Option Addr} {sl14 : Array (Option Value)} {oc14 kV14 dc14 pm14 cd14 ct14 : Value}
    (a14 : PySem.W.nsIn K mainGlobals "numbers_of_covers" = some (some (.ref f14))) (l14 : K.lookup f14 = some ⟨oc14, od14, .func (PySem.W.fnOf "numbers_of_covers" "numbers_of_covers" (defArgs s_numbers_of_covers) (defBody s_numbers_of_covers) (defScope s_numbers_of_covers) .none kV14 dc14 pm14 an14 cd14 ct14), sl14⟩) (c14 : PySem.W.codeIn K cd14 "numbers_of_covers" = true) (k14 : PySem.W.keepIn K (.ref f14) = true)
    {f15 : Addr} {od15 an15 : Option Addr} {sl15 : Array (Option Value)} {oc15 kV15 dc15 pm15 cd15 ct15 : Value}
    (a15 : PySem.W.nsIn K mainGlobals "block_cover" = some (some (.ref f15))) (l15 : K.lookup f15 = some ⟨oc15, od15, .func (PySem.W.fnOf "block_cover" "block_cover" (defArgs s_block_cover) (defBody s_block_cover) (defScope s_block_cover) .none kV15 dc15 pm15 an15 cd15 ct15), sl15⟩) (c15 : PySem.W.codeIn K cd15 "block_cover" = true) (k15 : PySem.W.keepIn K (.ref f15) = true)
    {f16 : Addr} {od16 an16 : Option Addr} {sl16 : Array (Option Value)} {oc16 kV16 dc16 pm16 cd16 ct16 : Value}
    (a16 : PySem.W.nsIn K mainGlobals "cover_in" = some (some (.ref f16))) (l16 : K.lookup f16 = some ⟨oc16, od16, .func (PySem.W.fnOf "cover_in" "cover_in" (defArgs s_cover_in) (defBody s_cover_in) (defScope s_cover_in) .none kV16 dc16 pm16 an16 cd16 ct16), sl16⟩) (c16 : PySem.W.codeIn K cd16 "cover_in" = true) (k16 : PySem.W.keepIn K (.ref f16) = true)
    {f17 : Addr} {od17 an17 : Option Addr} {sl17 : Array (Option Value)} {oc17 kV17 dc17 pm17 cd17 ct17 : Value}
    (a17 : PySem.W.nsIn K mainGlobals "clicks_in" = some (some (.ref f17))) (l17 : K.lookup f17 = some ⟨oc17, od17, .func (PySem.W.fnOf "clicks_in" "clicks_in" (defArgs s_clicks_in) (defBody s_clicks_in) (defScope s_clicks_in) .none kV17 dc17 pm17 an17 cd17 ct17), sl17⟩) (c17 : PySem.W.codeIn K cd17 "clicks_in" = true) (k17 : PySem.W.keepIn K (.ref f17) = true)
    {f18 : Addr} {od18 an18 : Option Addr} {sl18 : Array (Option Value)} {oc18 kV18 dc18 pm18 cd18 ct18 : Value}
    (a18 : PySem.W.nsIn K mainGlobals "cheapest_in" = some (some (.ref f18))) (l18 : K.lookup f18 = some ⟨oc18, od18, .func (PySem.W.fnOf "cheapest_in" "cheapest_in" (defArgs s_cheapest_in) (defBody s_cheapest_in) (defScope s_cheapest_in) .none kV18 dc18 pm18 an18 cd18 ct18), sl18⟩) (c18 : PySem.W.codeIn K cd18 "cheapest_in" = true) (k18 : PySem.W.keepIn K (.ref f18) = true)
    {f19 : Addr} {od19 an19 : Option Addr} {sl19 : Array (Option Value)} {oc19 kV19 dc19 pm19 cd19 ct19 : Value}
    (a19 : PySem.W.nsIn K mainGlobals "cheapest_clicks" = some (some (.ref f19))) (l19 : K.lookup f19 = some ⟨oc19, od19, .func (PySem.W.fnOf "cheapest_clicks" "cheapest_clicks" (defArgs s_cheapest_clicks) (defBody s_cheapest_clicks) (defScope s_cheapest_clicks) .none kV19 dc19 pm19 an19 cd19 ct19), sl19⟩) (c19 : PySem.W.codeIn K cd19 "cheapest_clicks" = true) (k19 : PySem.W.keepIn K (.ref f19) = true)
    {f20 : Addr} {od20 an20 : Option Addr} {sl20 : Array (Option Value)} {oc20 kV20 dc20 pm20 cd20 ct20 : Value}
    (a20 : PySem.W.nsIn K mainGlobals "outside" = some (some (.ref f20))) (l20 : K.lookup f20 = some ⟨oc20, od20, .func (PySem.W.fnOf "outside" "outside" (defArgs s_outside) (defBody s_outside) (defScope s_outside) .none kV20 dc20 pm20 an20 cd20 ct20), sl20⟩) (c20 : PySem.W.codeIn K cd20 "outside" = true) (k20 : PySem.W.keepIn K (.ref f20) = true)
    {f21 : Addr} {od21 an21 : Option Addr} {sl21 : Array (Option Value)} {oc21 kV21 dc21 pm21 cd21 ct21 : Value}
    (a21 : PySem.W.nsIn K mainGlobals "next_marks" = some (some (.ref f21))) (l21 : K.lookup f21 = some ⟨oc21, od21, .func (PySem.W.fnOf "next_marks" "next_marks" (defArgs s_next_marks) (defBody s_next_marks) (defScope s_next_marks) .none kV21 dc21 pm21 an21 cd21 ct21), sl21⟩) (c21 : PySem.W.codeIn K cd21 "next_marks" = true) (k21 : PySem.W.keepIn K (.ref f21) = true)
    {f22 : Addr} {od22 an22 : Option Addr} {sl22 : Array (Option Value)} {oc22 kV22 dc22 pm22 cd22 ct22 : Value}
    (a22 : PySem.W.nsIn K mainGlobals "first_list" = some (some (.ref f22))) (l22 : K.lookup f22 = some ⟨oc22, od22, .func (PySem.W.fnOf "first_list" "first_list" (defArgs s_first_list) (defBody s_first_list) (defScope s_first_list) .none kV22 dc22 pm22 an22 cd22 ct22), sl22⟩) (c22 : PySem.W.codeIn K cd22 "first_list" = true) (k22 : PySem.W.keepIn K (.ref f22) = true)
    {f23 : Addr} {od23 an23 : Option Addr} {sl23 : Array (Option Value)} {oc23 kV23 dc23 pm23 cd23 ct23 : Value}
    (a23 : PySem.W.nsIn K mainGlobals "fewest" = some (some (.ref f23))) (l23 : K.lookup f23 = some ⟨oc23, od23, .func (PySem.W.fnOf "fewest" "fewest" (defArgs s_fewest) (defBody s_fewest) (defScope s_fewest) .none kV23 dc23 pm23 an23 cd23 ct23), sl23⟩) (c23 : PySem.W.codeIn K cd23 "fewest" = true) (k23 : PySem.W.keepIn K (.ref f23) = true)
    {f24 : Addr} {od24 an24 : Option Addr} {sl24 : Array (Option Value)} {oc24 kV24 dc24 pm24 cd24 ct24 : Value}
    (a24 : PySem.W.nsIn K mainGlobals "_law_source" = some (some (.ref f24))) (l24 : K.lookup f24 = some ⟨oc24, od24, .func (PySem.W.fnOf "_law_source" "_law_source" (defArgs s__law_source) (defBody s__law_source) (defScope s__law_source) .none kV24 dc24 pm24 an24 cd24 ct24), sl24⟩) (c24 : PySem.W.codeIn K cd24 "_law_source" = true) (k24 : PySem.W.keepIn K (.ref f24) = true)
    {f25 : Addr} {od25 an25 : Option Addr} {sl25 : Array (Option Value)} {oc25 kV25 dc25 pm25 cd25 ct25 : Value}
    (a25 : PySem.W.nsIn K mainGlobals "_law_draw" = some (some (.ref f25))) (l25 : K.lookup f25 = some ⟨oc25, od25, .func (PySem.W.fnOf "_law_draw" "_law_draw" (defArgs s__law_draw) (defBody s__law_draw) (defScope s__law_draw) .none kV25 dc25 pm25 an25 cd25 ct25), sl25⟩) (c25 : PySem.W.codeIn K cd25 "_law_draw" = true) (k25 : PySem.W.keepIn K (.ref f25) = true)
    {f26 : Addr} {od26 an26 : Option Addr} {sl26 : Array (Option Value)} {oc26 kV26 dc26 pm26 cd26 ct26 : Value}
    (a26 : PySem.W.nsIn K mainGlobals "_law_some" = some (some (.ref f26))) (l26 : K.lookup f26 = some ⟨oc26, od26, .func (PySem.W.fnOf "_law_some" "_law_some" (defArgs s__law_some) (defBody s__law_some) (defScope s__law_some) .none kV26 dc26 pm26 an26 cd26 ct26), sl26⟩) (c26 : PySem.W.codeIn K cd26 "_law_some" = true) (k26 : PySem.W.keepIn K (.ref f26) = true)
    {f27 : Addr} {od27 an27 : Option Addr} {sl27 : Array (Option Value)} {oc27 kV27 dc27 pm27 cd27 ct27 : Value}
    (a27 : PySem.W.nsIn K mainGlobals "_law_clicks" = some (some (.ref f27))) (l27 : K.lookup f27 = some ⟨oc27, od27, .func (PySem.W.fnOf "_law_clicks" "_law_clicks" (defArgs s__law_clicks) (defBody s__law_clicks) (defScope s__law_clicks) .none kV27 dc27 pm27 an27 cd27 ct27), sl27⟩) (c27 : PySem.W.codeIn K cd27 "_law_clicks" = true) (k27 : PySem.W.keepIn K (.ref f27) = true)
    {f28 : Addr} {od28 an28 : Option Addr} {sl28 : Array (Option Value)} {oc28 kV28 dc28 pm28 cd28 ct28 : Value}
    (a28 : PySem.W.nsIn K mainGlobals "_law_along_right" = some (some (.ref f28))) (l28 : K.lookup f28 = some ⟨oc28, od28, .func (PySem.W.fnOf "_law_along_right" "_law_along_right" (defArgs s__law_along_right) (defBody s__law_along_right) (defScope s__law_along_right) .none kV28 dc28 pm28 an28 cd28 ct28), sl28⟩) (c28 : PySem.W.codeIn K cd28 "_law_along_right" = true) (k28 : PySem.W.keepIn K (.ref f28) = true)
    {f29 : Addr} {od29 an29 : Option Addr} {sl29 : Array (Option Value)} {oc29 kV29 dc29 pm29 cd29 ct29 : Value}
    (a29 : PySem.W.nsIn K mainGlobals "_law_near_right" = some (some (.ref f29))) (l29 : K.lookup f29 = some ⟨oc29, od29, .func (PySem.W.fnOf "_law_near_right" "_law_near_right" (defArgs s__law_near_right) (defBody s__law_near_right) (defScope s__law_near_right) .none kV29 dc29 pm29 an29 cd29 ct29), sl29⟩) (c29 : PySem.W.codeIn K cd29 "_law_near_right" = true) (k29 : PySem.W.keepIn K (.ref f29) = true)
    {f30 : Addr} {od30 an30 : Option Addr} {sl30 : Array (Option Value)} {oc30 kV30 dc30 pm30 cd30 ct30 : Value}
    (a30 : PySem.W.nsIn K mainGlobals "_law_both_right" = some (some (.ref f30))) (l30 : K.lookup f30 = some ⟨oc30, od30, .func (PySem.W.fnOf "_law_both_right" "_law_both_right" (defArgs s__law_both_right) (defBody s__law_both_right) (defScope s__law_both_right) .none kV30 dc30 pm30 an30 cd30 ct30), sl30⟩) (c30 : PySem.W.codeIn K cd30 "_law_both_right" = true) (k30 : PySem.W.keepIn K (.ref f30) = true)
    {f31 : Addr} {od31 an31 : Option Addr} {sl31 : Array (Option Value)} {oc31 kV31 dc31 pm31 cd31 ct31 : Value}
    (a31 : PySem.W.nsIn K mainGlobals "law" = some (some (.ref f31))) (l31 : K.lookup f31 = some ⟨oc31, od31, .func (PySem.W.fnOf "law" "law" (defArgs s_law) (defBody s_law) (defScope s_law) .none kV31 dc31 pm31 an31 cd31 ct31), sl31⟩) (c31 : PySem.W.codeIn K cd31 "law" = true) (k31 : PySem.W.keepIn K (.ref f31) = true)
    {cD : Addr} {fI cI cdI : Addr} {ocI clI cclI : Value} {odI cldI cddI anI : Option Addr} {kVI docI pmI ctI : Value} {oslI cslI ccsI : Array (Option Value)} {vsI : Array Value} {flI : Str} {tfI : Tok} {cdD : ClassData}
    (aW : PySem.W.nsIn K mainGlobals "WindowError" = some (some (.ref cD))) (iI : PySem.W.findIn K (.ref cD) "__init__" = some (some (.ref fI)))
    (lI : K.lookup fI = some ⟨ocI, odI, .func (PySem.W.fnX "__init__" "WindowError.__init__" (defArgs s_init) (defBody s_init) (defScope s_init) [("__class__", cI)] .none kVI docI pmI anI (.ref cdI) ctI), oslI⟩) (qI : PySem.W.codeIn K (.ref cdI) "WindowError.__init__" = true)
    (ceI : K.lookup cI = some ⟨clI, cldI, .cell (some (.ref cD)), cslI⟩) (fiI : K.lookup cdI = some ⟨cclI, cddI, .fields vsI, ccsI⟩) (viI : vsI[2]? = some (.str flI tfI)) (wiI : ((PR.main.file : Str) == flI) = true) (clD : PySem.W.clsIn K cD = some cdD) (suI : PySem.W.nsIn K mainGlobals "super" = some none)
    (opI : PySem.W.nsIn K cStatics "thirdparty.any" = some none) (tyI : PySem.W.typeIn K (.ref fI) = some (.type "function"))
    {e0 : Addr} {nme0 qe0 : Str} {Ne0 : Addr} {bse0 : List Value} {sne0 : List Str} {sube0 : List Value} {abe0 : Bool} {cole0 : Option Bool} {dde0 : Option Addr} {m0e0 m1e0 m2e0 m3e0 m5e0 : Option Value}
    (aCe0 : PySem.W.nsIn K mainGlobals "WindowError" = some (some (.ref e0))) (xLe0 : K.lookup e0 = some (excClassObj nme0 qe0 e0 Ne0 bse0 PySem.HandSPX.veTail true sne0 sube0 abe0 cole0 dde0 m0e0 m1e0 m2e0 m3e0 m5e0 "ValueError.__new__")) (rve0 : e0 = cD)
    (sae0 : PySem.W.findIn K (.ref e0) "__setattr__" = some (some (.builtin "object.__setattr__"))) (gae0 : PySem.W.findIn K (.ref e0) "__getattribute__" = some (some (.builtin "BaseException.__getattribute__"))) (gge0 : PySem.W.findIn K (.ref e0) "__getattr__" = some none) (nve0 : PySem.W.findIn K (.ref e0) "value" = some none) (ine0 : PySem.W.findIn K (.ref e0) "__init__" = some (some (.ref fI)))
    (kCe0 : PySem.W.keepIn K (.ref e0) = true) (eCe0 : PySem.W.subIn K (.ref e0) (.type "BaseException") = some true) (tCe0 : PySem.W.typeIn K (.ref e0) = some (.type "type")) (hCe0 : PySem.W.hasDictIn K e0 = true) (mre0 : PySem.W.mroIn K e0 (.ref cD) = some true) (ice0 : PySem.W.isClsIn K e0 = true) (sve0 : PySem.W.subIn K (.ref e0) (.type "ValueError") = some true)
    {e1 : Addr} {nme1 qe1 : Str} {Ne1 : Addr} {bse1 : List Value} {sne1 : List Str} {sube1 : List Value} {abe1 : Bool} {cole1 : Option Bool} {dde1 : Option Addr} {m0e1 m1e1 m2e1 m3e1 m5e1 : Option Value}
    (aCe1 : PySem.W.nsIn K mainGlobals "InvalidRows" = some (some (.ref e1))) (xLe1 : K.lookup e1 = some (excClassObj nme1 qe1 e1 Ne1 bse1 (.ref cD :: PySem.HandSPX.veTail) true sne1 sube1 abe1 cole1 dde1 m0e1 m1e1 m2e1 m3e1 m5e1 "ValueError.__new__")) (rve1 : (e1 == cD) = false)
    (sae1 : PySem.W.findIn K (.ref e1) "__setattr__" = some (some (.builtin "object.__setattr__"))) (gae1 : PySem.W.findIn K (.ref e1) "__getattribute__" = some (some (.builtin "BaseException.__getattribute__"))) (gge1 : PySem.W.findIn K (.ref e1) "__getattr__" = some none) (nve1 : PySem.W.findIn K (.ref e1) "value" = some none) (ine1 : PySem.W.findIn K (.ref e1) "__init__" = some (some (.ref fI)))
    (kCe1 : PySem.W.keepIn K (.ref e1) = true) (eCe1 : PySem.W.subIn K (.ref e1) (.type "BaseException") = some true) (tCe1 : PySem.W.typeIn K (.ref e1) = some (.type "type")) (hCe1 : PySem.W.hasDictIn K e1 = true) (mre1 : PySem.W.mroIn K e1 (.ref cD) = some true) (ice1 : PySem.W.isClsIn K e1 = true) (sve1 : PySem.W.subIn K (.ref e1) (.type "ValueError") = some true)
    {e2 : Addr} {nme2 qe2 : Str} {Ne2 : Addr} {bse2 : List Value} {sne2 : List Str} {sube2 : List Value} {abe2 : Bool} {cole2 : Option Bool} {dde2 : Option Addr} {m0e2 m1e2 m2e2 m3e2 m5e2 : Option Value}
    (aCe2 : PySem.W.nsIn K mainGlobals "InvalidPosition" = some (some (.ref e2))) (xLe2 : K.lookup e2 = some (excClassObj nme2 qe2 e2 Ne2 bse2 (.ref cD :: PySem.HandSPX.veTail) true sne2 sube2 abe2 cole2 dde2 m0e2 m1e2 m2e2 m3e2 m5e2 "ValueError.__new__")) (rve2 : (e2 == cD) = false)
    (sae2 : PySem.W.findIn K (.ref e2) "__setattr__" = some (some (.builtin "object.__setattr__"))) (gae2 : PySem.W.findIn K (.ref e2) "__getattribute__" = some (some (.builtin "BaseException.__getattribute__"))) (gge2 : PySem.W.findIn K (.ref e2) "__getattr__" = some none) (nve2 : PySem.W.findIn K (.ref e2) "value" = some none) (ine2 : PySem.W.findIn K (.ref e2) "__init__" = some (some (.ref fI)))
    (kCe2 : PySem.W.keepIn K (.ref e2) = true) (eCe2 : PySem.W.subIn K (.ref e2) (.type "BaseException") = some true) (tCe2 : PySem.W.typeIn K (.ref e2) = some (.type "type")) (hCe2 : PySem.W.hasDictIn K e2 = true) (mre2 : PySem.W.mroIn K e2 (.ref cD) = some true) (ice2 : PySem.W.isClsIn K e2 = true) (sve2 : PySem.W.subIn K (.ref e2) (.type "ValueError") = some true)
    {e3 : Addr} {nme3 qe3 : Str} {Ne3 : Addr} {bse3 : List Value} {sne3 : List Str} {sube3 : List Value} {abe3 : Bool} {cole3 : Option Bool} {dde3 : Option Addr} {m0e3 m1e3 m2e3 m3e3 m5e3 : Option Value}
    (aCe3 : PySem.W.nsIn K mainGlobals "InvalidMarks" = some (some (.ref e3))) (xLe3 : K.lookup e3 = some (excClassObj nme3 qe3 e3 Ne3 bse3 (.ref cD :: PySem.HandSPX.veTail) true sne3 sube3 abe3 cole3 dde3 m0e3 m1e3 m2e3 m3e3 m5e3 "ValueError.__new__")) (rve3 : (e3 == cD) = false)
    (sae3 : PySem.W.findIn K (.ref e3) "__setattr__" = some (some (.builtin "object.__setattr__"))) (gae3 : PySem.W.findIn K (.ref e3) "__getattribute__" = some (some (.builtin "BaseException.__getattribute__"))) (gge3 : PySem.W.findIn K (.ref e3) "__getattr__" = some none) (nve3 : PySem.W.findIn K (.ref e3) "value" = some none) (ine3 : PySem.W.findIn K (.ref e3) "__init__" = some (some (.ref fI)))
    (kCe3 : PySem.W.keepIn K (.ref e3) = true) (eCe3 : PySem.W.subIn K (.ref e3) (.type "BaseException") = some true) (tCe3 : PySem.W.typeIn K (.ref e3) = some (.type "type")) (hCe3 : PySem.W.hasDictIn K e3 = true) (mre3 : PySem.W.mroIn K e3 (.ref cD) = some true) (ice3 : PySem.W.isClsIn K e3 = true) (sve3 : PySem.W.subIn K (.ref e3) (.type "ValueError") = some true)
    {e4 : Addr} {nme4 qe4 : Str} {Ne4 : Addr} {bse4 : List Value} {sne4 : List Str} {sube4 : List Value} {abe4 : Bool} {cole4 : Option Bool} {dde4 : Option Addr} {m0e4 m1e4 m2e4 m3e4 m5e4 : Option Value}
    (aCe4 : PySem.W.nsIn K mainGlobals "InvalidDeed" = some (some (.ref e4))) (xLe4 : K.lookup e4 = some (excClassObj nme4 qe4 e4 Ne4 bse4 (.ref cD :: PySem.HandSPX.veTail) true sne4 sube4 abe4 cole4 dde4 m0e4 m1e4 m2e4 m3e4 m5e4 "ValueError.__new__")) (rve4 : (e4 == cD) = false)
    (sae4 : PySem.W.findIn K (.ref e4) "__setattr__" = some (some (.builtin "object.__setattr__"))) (gae4 : PySem.W.findIn K (.ref e4) "__getattribute__" = some (some (.builtin "BaseException.__getattribute__"))) (gge4 : PySem.W.findIn K (.ref e4) "__getattr__" = some none) (nve4 : PySem.W.findIn K (.ref e4) "value" = some none) (ine4 : PySem.W.findIn K (.ref e4) "__init__" = some (some (.ref fI)))
    (kCe4 : PySem.W.keepIn K (.ref e4) = true) (eCe4 : PySem.W.subIn K (.ref e4) (.type "BaseException") = some true) (tCe4 : PySem.W.typeIn K (.ref e4) = some (.type "type")) (hCe4 : PySem.W.hasDictIn K e4 = true) (mre4 : PySem.W.mroIn K e4 (.ref cD) = some true) (ice4 : PySem.W.isClsIn K e4 = true) (sve4 : PySem.W.subIn K (.ref e4) (.type "ValueError") = some true)
    {kk_CLICK : Tok} (ak_CLICK : PySem.W.nsIn K mainGlobals "CLICK" = some (some (.str "click" kk_CLICK)))
    {kk_RANGE : Tok} (ak_RANGE : PySem.W.nsIn K mainGlobals "RANGE" = some (some (.str "range" kk_RANGE)))
    (z_len : PySem.W.nsIn K mainGlobals "len" = some none)
    (z_set : PySem.W.nsIn K mainGlobals "set" = some none)
    (z_list : PySem.W.nsIn K mainGlobals "list" = some none)
    (z_all : PySem.W.nsIn K mainGlobals "all" = some none)
    (z_zip : PySem.W.nsIn K mainGlobals "zip" = some none)
    (z_enumerate : PySem.W.nsIn K mainGlobals "enumerate" = some none)
    (z_sorted : PySem.W.nsIn K mainGlobals "sorted" = some none)
    (z_min : PySem.W.nsIn K mainGlobals "min" = some none)
    (z_max : PySem.W.nsIn K mainGlobals "max" = some none)
    (z_range : PySem.W.nsIn K mainGlobals "range" = some none)
    (z_sum : PySem.W.nsIn K mainGlobals "sum" = some none)
    (z_tuple : PySem.W.nsIn K mainGlobals "tuple" = some none)
    (z_int : PySem.W.nsIn K mainGlobals "int" = some none)
    (z_abs : PySem.W.nsIn K mainGlobals "abs" = some none)
    : ∃ T : Txt K mg, T.d_law = PySem.W.fnOf "law" "law" (defArgs s_law) (defBody s_law) (defScope s_law) .none kV31 dc31 pm31 an31 cd31 ct31 ∧ T.a_law = f31 :=
  ⟨⟨f0, _, fun_mk (st := s_check_there) l0 c0 k0, PySem.W.mg_of X G a0, f1, _, fun_mk (st := s_are_marks) l1 c1 k1, PySem.W.mg_of X G a1, f2, _, fun_mk (st := s_check_marks) l2 c2 k2, PySem.W.mg_of X G a2, f3, _, fun_mk (st := s_check_marks_there) l3 c3 k3, PySem.W.mg_of X G a3, f4, _, fun_mk (st := s_check_clicks) l4 c4 k4, PySem.W.mg_of X G a4, f5, _, fun_mk (st := s_places_of) l5 c5 k5, PySem.W.mg_of X G a5, f6, _, fun_mk (st := s_marked_in) l6 c6 k6, PySem.W.mg_of X G a6, f7, _, fun_mk (st := s_borders_in) l7 c7 k7, PySem.W.mg_of X G a7, f8, _, fun_mk (st := s_blocks_of) l8 c8 k8, PySem.W.mg_of X G a8, f9, _, fun_mk (st := s_cost_in) l9 c9 k9, PySem.W.mg_of X G a9, f10, _, fun_mk (st := s_check_state) l10 c10 k10, PySem.W.mg_of X G a10, f11, _, fun_mk (st := s_marked) l11 c11 k11, PySem.W.mg_of X G a11, f12, _, fun_mk (st := s_borders) l12 c12 k12, PySem.W.mg_of X G a12, f13, _, fun_mk (st := s_cost) l13 c13 k13, PySem.W.mg_of X G a13, f14, _, fun_mk (st := s_numbers_of_covers) l14 c14 k14, PySem.W.mg_of X G a14, f15, _, fun_mk (st := s_block_cover) l15 c15 k15, PySem.W.mg_of X G a15, f16, _, fun_mk (st := s_cover_in) l16 c16 k16, PySem.W.mg_of X G a16, f17, _, fun_mk (st := s_clicks_in) l17 c17 k17, PySem.W.mg_of X G a17, f18, _, fun_mk (st := s_cheapest_in) l18 c18 k18, PySem.W.mg_of X G a18, f19, _, fun_mk (st := s_cheapest_clicks) l19 c19 k19, PySem.W.mg_of X G a19, f20, _, fun_mk (st := s_outside) l20 c20 k20, PySem.W.mg_of X G a20, f21, _, fun_mk (st := s_next_marks) l21 c21 k21, PySem.W.mg_of X G a21, f22, _, fun_mk (st := s_first_list) l22 c22 k22, PySem.W.mg_of X G a22, f23, _, fun_mk (st := s_fewest) l23 c23 k23, PySem.W.mg_of X G a23, f24, _, fun_mk (st := s__law_source) l24 c24 k24, PySem.W.mg_of X G a24, f25, _, fun_mk (st := s__law_draw) l25 c25 k25, PySem.W.mg_of X G a25, f26, _, fun_mk (st := s__law_some) l26 c26 k26, PySem.W.mg_of X G a26, f27, _, fun_mk (st := s__law_clicks) l27 c27 k27, PySem.W.mg_of X G a27, f28, _, fun_mk (st := s__law_along_right) l28 c28 k28, PySem.W.mg_of X G a28, f29, _, fun_mk (st := s__law_near_right) l29 c29 k29, PySem.W.mg_of X G a29, f30, _, fun_mk (st := s__law_both_right) l30 c30 k30, PySem.W.mg_of X G a30, f31, _, fun_mk (st := s_law) l31 c31 k31, PySem.W.mg_of X G a31, fI, cI, cdI, cD, _, ⟨⟨_, _, _, _, _, _, _, _, rfl, lI⟩, qI, ⟨_, _, _, ceI⟩, ⟨_, _, _, _, _, _, fiI, viI, wiI⟩, ⟨_, clD⟩, PySem.W.mg_none_of X G suI, by rfl, opI⟩, e0, ⟨⟨⟨_, _, _, _, _, _, _, _, _, _, _, _, _, _, _, xLe0, rfl⟩, sae0, eCe0, tCe0, kCe0⟩, ine0, tyI, nve0, mre0, sup_self xLe0 rve0, sve0, ⟨gae0, gge0, eCe0, hCe0⟩⟩, PySem.W.mg_of X G aCe0, e1, ⟨⟨⟨_, _, _, _, _, _, _, _, _, _, _, _, _, _, _, xLe1, rfl⟩, sae1, eCe1, tCe1, kCe1⟩, ine1, tyI, nve1, mre1, sup_child xLe1 rve1, sve1, ⟨gae1, gge1, eCe1, hCe1⟩⟩, PySem.W.mg_of X G aCe1, e2, ⟨⟨⟨_, _, _, _, _, _, _, _, _, _, _, _, _, _, _, xLe2, rfl⟩, sae2, eCe2, tCe2, kCe2⟩, ine2, tyI, nve2, mre2, sup_child xLe2 rve2, sve2, ⟨gae2, gge2, eCe2, hCe2⟩⟩, PySem.W.mg_of X G aCe2, e3, ⟨⟨⟨_, _, _, _, _, _, _, _, _, _, _, _, _, _, _, xLe3, rfl⟩, sae3, eCe3, tCe3, kCe3⟩, ine3, tyI, nve3, mre3, sup_child xLe3 rve3, sve3, ⟨gae3, gge3, eCe3, hCe3⟩⟩, PySem.W.mg_of X G aCe3, e4, ⟨⟨⟨_, _, _, _, _, _, _, _, _, _, _, _, _, _, _, xLe4, rfl⟩, sae4, eCe4, tCe4, kCe4⟩, ine4, tyI, nve4, mre4, sup_child xLe4 rve4, sve4, ⟨gae4, gge4, eCe4, hCe4⟩⟩, PySem.W.mg_of X G aCe4, kk_CLICK, PySem.W.mg_of X G ak_CLICK, kk_RANGE, PySem.W.mg_of X G ak_RANGE, PySem.W.mg_none_of X G z_len, PySem.W.mg_none_of X G z_set, PySem.W.mg_none_of X G z_list, PySem.W.mg_none_of X G z_all, PySem.W.mg_none_of X G z_zip, PySem.W.mg_none_of X G z_enumerate, PySem.W.mg_none_of X G z_sorted, PySem.W.mg_none_of X G z_min, PySem.W.mg_none_of X G z_max, PySem.W.mg_none_of X G z_range, PySem.W.mg_none_of X G z_sum, PySem.W.mg_none_of X G z_tuple, PySem.W.mg_none_of X G z_int, PySem.W.mg_none_of X G z_abs⟩, rfl, rfl⟩
theorem walk {l : PySem.W.OpenLaw} {q : Program} {loose : List Str} {XP : (Str → Option Value) → Heap → Prop} {YP : World → Heap → Prop} {d : DefRec} {K : Params → PySem.W.Frag} (hn : l.most = some 63) (hdf : d.params.defaults = [])
    (hY : ∀ (w : World) (h : Heap), YP w h → (K w.params).In h)
    (F : ∀ (w : World) (mg : Str → Option Value) (fa : Addr) (h : Heap), (K w.params).In h → h.Ns mainGlobals mg → mg d.name = some (.ref fa) →
      ∃ fd : FuncData, (∀ (s : Shared) (u : Value), BindsTo s fd ⟨[u], []⟩ [("_law_script", u)]) ∧ ∀ base : Heap, (K w.params).In base → base.Ns mainGlobals mg → FnOk l.prog w (K w.params) mg base CX0 7 fa fd ["_law_script"] (sp_law (K w.params))) :
    PySem.W.WalkO q loose XP YP l.row.toRowW d [] (fun f vs => PySem.call f vs) :=
  L2.walk_of (n := 63) (k := 7) (x := "_law_script") (CX := fun _ => CX0) (sp := fun w => sp_law (K w.params)) hn (by decide) hdf ⟨rfl, by decide, by decide⟩ hY F (fun _ _ a ns hl _ hS => ⟨a, ns, rfl, hS, hl, fun _ => rfl⟩) fun _ _ _ _ _ z => z
end K76
open PySem PySem.W PyProof.Rows
set_option maxRecDepth 100000 in
set_option maxHeartbeats 0 in
theorem PySem.Challenge.cw_listwindow_k76_whole_costs_click_by_clic_holds : PySem.Challenge.rw_listwindow_k76_whole_costs_click_by_clic.Holds := by
  w_on; o_law; k_head; (case hw => w_witness2)
  k_fill
  refine K76.walk (l := PySem.Challenge.rw_listwindow_k76_whole_costs_click_by_clic) rfl rfl (fun w h Y => PySem.W.kIn_of Y) ?F
  case F =>
    intro w mg fa h KX G hmg
    have T : ∃ T : K76.Txt _ mg, _ ∧ _ := K76.all_mk KX G (by k_is) (by k_is) (by k_is) (by k_is) (by k_is) (by k_is) (by k_is) (by k_is) (by k_is) (by k_is) (by k_is) (by k_is) (by k_is) (by k_is) (by k_is) (by k_is) (by k_is) (by k_is) (by k_is) (by k_is) (by k_is) (by k_is) (by k_is) (by k_is) (by k_is) (by k_is) (by k_is) (by k_is) (by k_is) (by k_is) (by k_is) (by k_is) (by k_is) (by k_is) (by k_is) (by k_is) (by k_is) (by k_is) (by k_is) (by k_is) (by k_is) (by k_is) (by k_is) (by k_is) (by k_is) (by k_is) (by k_is) (by k_is) (by k_is) (by k_is) (by k_is) (by k_is) (by k_is) (by k_is) (by k_is) (by k_is) (by k_is) (by k_is) (by k_is) (by k_is) (by k_is) (by k_is) (by k_is) (by k_is) (by k_is) (by k_is) (by k_is) (by k_is) (by k_is) (by k_is) (by k_is) (by k_is) (by k_is) (by k_is) (by k_is) (by k_is) (by k_is) (by k_is) (by k_is) (by k_is) (by k_is) (by k_is) (by k_is) (by k_is) (by k_is) (by k_is) (by k_is) (by k_is) (by k_is) (by k_is) (by k_is) (by k_is) (by k_is) (by k_is) (by k_is) (by k_is) (by k_is) (by k_is) (by k_is) (by k_is) (by k_is) (by k_is) (by k_is) (by k_is) (by k_is) (by k_is) (by k_is) (by k_is) (by k_is) (by k_is) (by k_is) (by k_is) (by k_is) (by k_is) (by k_is) (by k_is) (by k_is) (by k_is) (by k_is) (by k_is) (by k_is) (by k_is) (by k_is) (by k_is) (by k_is) (by k_is) (by k_is) (by k_is) (by k_is) (by k_is) (by k_is) (by k_is) (by k_is) (by k_is) (by rfl) (by decide +kernel) (by k_is) (by k_is) (by k_is) (by k_is) (by k_is) (by k_is) (by rfl) (by k_is) (by k_is) (by k_is) (by k_is) (by k_is) (by k_is) (by k_is) (by k_is) (by k_is) (by k_is) (by k_is) (by k_is) (by k_is) (by k_is) (by rfl) (by k_is) (by k_is) (by k_is) (by k_is) (by k_is) (by k_is) (by k_is) (by k_is) (by k_is) (by k_is) (by k_is) (by k_is) (by k_is) (by k_is) (by rfl) (by k_is) (by k_is) (by k_is) (by k_is) (by k_is) (by k_is) (by k_is) (by k_is) (by k_is) (by k_is) (by k_is) (by k_is) (by k_is) (by k_is) (by rfl) (by k_is) (by k_is) (by k_is) (by k_is) (by k_is) (by k_is) (by k_is) (by k_is) (by k_is) (by k_is) (by k_is) (by k_is) (by k_is) (by k_is) (by rfl) (by k_is) (by k_is) (by k_is) (by k_is) (by k_is) (by k_is) (by k_is) (by k_is) (by k_is) (by k_is) (by k_is) (by k_is) (by k_is) (by k_is) (by k_is) (by k_is) (by k_is) (by k_is) (by k_is) (by k_is) (by k_is) (by k_is) (by k_is) (by k_is) (by k_is) (by k_is) (by k_is) (by k_is)
    obtain ⟨T, e1, e2⟩ := T
    have e3 := hmg.symm.trans T.g_law
    cases e3
    exact ⟨T.d_law, fun s v => by rw [e1]; exact .of_eq rfl, fun base _ _ => K76.ok_law T⟩
#print axioms PySem.Challenge.cw_listwindow_k76_whole_costs_click_by_clic_holds

